/- Over the kit's printer by a driver of mine (hprint.py), with parts by hand: functions of the program as Lean functions, and that each call comes to exactly these answers. -/
import Derived.Test.YtaaodakmelihaaaGreatPFnPiecesx0
import Derived.Test.YtaaodakmelihaaaGreatPFnPiecesx14
namespace Go.Proofs.YtaaodakmelihaaaGreat.PFnPieces
open Go.RowKit Go.Proofs.YtaaodakmelihaaaGreatW.PrintWords Go.Proofs.YtaaodakmelihaaaGreatW.PrintLast Go.Proofs.YtaaodakmelihaaaGreatW.PrintMore
attribute [local go_sem] max2_int min2_int max_two min_two max_three min_three max_four min_four   -- for this text's walks alone
set_option linter.unusedVariables false
set_option linter.unusedSimpArgs false

/-! ### impl_tidyShapes: function 41 -/
-- IMPORT Derived.Deep.RegionHeld3
/-! Shapes sorted, each kept once: slices.SortFunc and slices.CompactFunc over a row of rows of the call's own. -/
def leS (a b : List S60) : Bool := !(decide (cmpS b a < 0))
def sortS (L : List (List S60)) : List (List S60) := L.mergeSort leS
def dedFrom (p : List S60) : List (List S60) → List (List S60)
 | [] => []
 | y :: r => if cmpS y p = 0 then dedFrom y r else y :: dedFrom y r
def dedS : List (List S60) → List (List S60)
 | [] => []
 | x :: r => x :: dedFrom x r
def tidyL (L : List (List S60)) : List (List S60) := dedS (sortS L)
theorem eqS_loop (a b : List S60) (h : a.length = b.length) (hm : a.length ≤ 9223372036854775807) (d : Nat) : ∀ i : Nat, i + d = a.length → slices_Equal_impl_Cell_impl_Cell.l0 (d + 1) a b (a.length : Int) i = some (decide (cmpGo (a.drop i) (b.drop i) = 0)) := by
 induction d with
 | zero =>
  intro i hi
  rw [slices_Equal_impl_Cell_impl_Cell.l0, if_neg (by omega), List.drop_of_length_le (by omega)]
  rfl
 | succ d ih =>
  intro i hi
  have hb : i < b.length := by omega
  have e0 : rd_T60 a (i : Int) = a[i] := by show a.getD i _ = _; rw [List.getD_eq_getElem?_getD, List.getElem?_eq_getElem (by omega), Option.getD_some]
  have e1 : rd_T60 b (i : Int) = b[i] := by show b.getD i _ = _; rw [List.getD_eq_getElem?_getD, List.getElem?_eq_getElem hb, Option.getD_some]
  rw [slices_Equal_impl_Cell_impl_Cell.l0, if_pos (by omega), if_pos (by omega), if_pos (by omega), if_pos (by omega), e0, e1, List.drop_eq_getElem_cons (by omega : i < a.length), List.drop_eq_getElem_cons hb, cmpGo]
  by_cases e : cfC a[i] b[i] = 0
  ·have e2 := (cfC_zero _ _).1 e
   rw [if_pos e, e2, if_neg (by simp), show wrap64 ((i : Int) + 1) = ((i + 1 : Nat) : Int) by unfold wrap64; omega]
   exact ih (i + 1) (by omega)
  ·rw [if_neg e, if_pos ?_, decide_eq_false e]
   generalize a[i] = p at e
   generalize b[i] = q at e
   obtain ⟨p0, p1⟩ := p
   obtain ⟨q0, q1⟩ := q
   by_cases h0 : p0 = q0
   ·have h1 : p1 ≠ q1 := fun h => e ((cfC_zero _ _).2 (by rw [h0, h]))
    simp [h0, h1]
   ·simp [h0]
theorem eqS_some (a b : List S60) (hm : a.length ≤ 9223372036854775807) : ∃ k, impl_equalShapes.f k a b = some (decide (cmpS a b = 0)) := by
 unfold impl_equalShapes.f slices_Equal_impl_Cell_impl_Cell.f cmpS
 by_cases h : a.length = b.length
 ·refine ⟨a.length + 1, ?_⟩
  have e := eqS_loop a b h hm a.length 0 (by omega)
  rw [if_pos (by omega), if_pos h, show ((0 : Nat) : Int) = 0 from rfl] at *
  rw [e]
  rfl
 ·refine ⟨0, ?_⟩
  rw [if_neg (by omega), if_neg h]
  by_cases h2 : a.length < b.length
  ·rw [if_pos h2]; rfl
  ·rw [if_neg h2]; rfl
/-- All blocks but g stay. -/
structure ButB (g : Nat) (w w' : World) : Prop where
 os : w'.os = w.os
 tape : w'.tape = w.tape
 output : w'.output = w.output
 size : w.heap.size ≤ w'.heap.size
 block : ∀ k, k < w.heap.size → k ≠ g → w'.heap[k]? = w.heap[k]?
theorem ButB.below {g : Nat} {w w1 w2 : World} (h : ButB g w w1) (k : Below w1.heap.size w1 w2) : ButB g w w2 :=
 ⟨k.os.trans h.os, k.tape.trans h.tape, k.output.trans h.output, Nat.le_trans h.size k.size, fun i hi hn => (k.block i (Nat.lt_of_lt_of_le hi h.size)).trans (h.block i hi hn)⟩
theorem ButB.refl (g : Nat) (w : World) : ButB g w w := ⟨rfl, rfl, rfl, Nat.le_refl _, fun _ _ _ => rfl⟩
theorem ButB.set {g : Nat} {w w1 : World} (h : ButB g w w1) (i : Nat) (v : Value) : ButB g w (w1.setCell ⟨g, i, none⟩ v) :=
 ⟨h.os, h.tape, h.output, by have := h.size; simpa [World.setCell] using this, fun k hk hn => (Below.heap_setCell w1 ⟨g, i, none⟩ v k hn).trans (h.block k hk hn)⟩
theorem ButB.from_ {g base : Nat} {w0 w w' : World} (h : ButB g w w') (hb : Below base w0 w) (h0 : base ≤ w0.heap.size) (hg : base ≤ g) : Below base w0 w' :=
 ⟨h.os.trans hb.os, h.tape.trans hb.tape, h.output.trans hb.output, Nat.le_trans hb.size h.size, fun k hk => (h.block k (by have := hb.size; omega) (by omega)).trans (hb.block k hk)⟩
/-- Each keeps its value: the first of every run. -/
def keepP (p : List S60) : List (Value × List S60) → List (Value × List S60)
 | [] => []
 | y :: r => if cmpS y.2 p = 0 then keepP y.2 r else y :: keepP y.2 r
def keepS : List (Value × List S60) → List (Value × List S60)
 | [] => []
 | x :: r => x :: keepP x.2 r
theorem keepP_snd : ∀ (r : List (Value × List S60)) (p : List S60), (keepP p r).map (·.2) = dedFrom p (r.map (·.2))
 | [], _ => rfl
 | y :: r, p => by
  rw [keepP, List.map_cons, dedFrom]
  by_cases e : cmpS y.2 p = 0
  ·rw [if_pos e, if_pos e, keepP_snd r]
  ·rw [if_neg e, if_neg e, List.map_cons, keepP_snd r]
theorem keepS_snd (L : List (Value × List S60)) : (keepS L).map (·.2) = dedS (L.map (·.2)) := by
 cases L with
 | nil => rfl
 | cons x r => rw [keepS, List.map_cons, List.map_cons, dedS, keepP_snd]
theorem keepP_sub : ∀ (r : List (Value × List S60)) (p : List S60), ∀ q ∈ keepP p r, q ∈ r
 | [], _ => fun q hq => hq
 | y :: r, p => fun q hq => by
  rw [keepP] at hq
  by_cases e : cmpS y.2 p = 0
  ·rw [if_pos e] at hq; exact List.mem_cons_of_mem _ (keepP_sub r _ q hq)
  ·rw [if_neg e] at hq
   rcases List.mem_cons.1 hq with rfl | hq
   ·simp
   ·exact List.mem_cons_of_mem _ (keepP_sub r _ q hq)
theorem keepS_sub (L : List (Value × List S60)) : ∀ q ∈ keepS L, q ∈ L := by
 cases L with
 | nil => exact fun q hq => hq
 | cons x r =>
  intro q hq
  rcases List.mem_cons.1 hq with rfl | hq
  ·simp
  ·exact List.mem_cons_of_mem _ (keepP_sub r _ q hq)
/-- One more looked at: by the one before it. -/
theorem keepP_snoc : ∀ (r : List (Value × List S60)) (p : List S60) (y : Value × List S60), keepP p (r ++ [y]) = keepP p r ++ (if cmpS y.2 (((r.map (·.2)).getLast?).getD p) = 0 then [] else [y])
 | [], p, y => by
  rw [List.nil_append, keepP, keepP, keepP, List.nil_append]
  rfl
 | x :: r, p, y => by
  rw [List.cons_append, keepP, keepP, keepP_snoc r x.2 y]
  have e : (((x :: r).map (·.2)).getLast?).getD p = ((r.map (·.2)).getLast?).getD x.2 := by
   cases r with
   | nil => rfl
   | cons z r => rw [List.map_cons, List.map_cons, List.getLast?_cons_cons]; simp [List.getLast?_cons]
  rw [e]
  by_cases c : cmpS x.2 p = 0
  ·rw [if_pos c, if_pos c]
  ·rw [if_neg c, if_neg c, List.cons_append]
theorem keepS_take (L : List (Value × List S60)) (i : Nat) (h1 : 1 ≤ i) (hi : i < L.length) : keepS (L.take (i + 1)) = keepS (L.take i) ++ (if cmpS L[i].2 (L[i - 1]'(by omega)).2 = 0 then [] else [L[i]]) := by
 cases L with
 | nil => simp at hi
 | cons x r =>
  obtain ⟨j, rfl⟩ : ∃ j, i = j + 1 := ⟨i - 1, by omega⟩
  have hj : j < r.length := by simpa using hi
  rw [List.take_succ_cons, List.take_succ_cons, keepS, keepS, List.take_succ_eq_append_getElem hj, keepP_snoc, List.cons_append]
  have e : ((((r.take j).map (·.2)).getLast?).getD x.2) = ((x :: r)[j + 1 - 1]'(by simp; omega)).2 := by
   cases j with
   | zero => rfl
   | succ j =>
    rw [List.take_succ_eq_append_getElem (by omega : j < r.length), List.map_append, List.map_cons, List.map_nil, List.getLast?_append]
    rfl
  rw [e]
  rfl
theorem keepS_len (L : List (Value × List S60)) : (keepS L).length ≤ L.length := by
 have : ∀ (r : List (Value × List S60)) (p : List S60), (keepP p r).length ≤ r.length := by
  intro r
  induction r with
  | nil => intro p; exact Nat.le_refl _
  | cons y r ih =>
   intro p
   rw [keepP]
   have := ih y.2
   split
   ·simp; omega
   ·simp; omega
 cases L with
 | nil => exact Nat.le_refl _
 | cons x r => have := this r x.2; simp [keepS]; omega
theorem leS_sorted (L : List (List S60)) : (sortS L).Pairwise (fun a b => cmpS a b ≤ 0) := by
 refine (List.pairwise_mergeSort (le := leS) (fun a b c h1 h2 => ?_) (fun a b => ?_) L).imp (fun {a b} h => ?_)
 ·simp only [leS, Bool.not_eq_true', decide_eq_false_iff_not] at h1 h2 ⊢
  have e1 := cmpS_neg a b
  have e2 := cmpS_neg b c
  have e3 := cmpS_neg a c
  have := cmpS_le_trans a b c (by omega) (by omega)
  omega
 ·simp only [leS, Bool.or_eq_true, Bool.not_eq_true', decide_eq_false_iff_not]
  have e1 := cmpS_neg a b
  omega
 ·simp only [leS, Bool.not_eq_true', decide_eq_false_iff_not] at h
  have e1 := cmpS_neg a b
  omega
theorem sortS_of {L L' : List (List S60)} (hp : L'.Perm L) (h : L'.Pairwise (fun a b => cmpS a b ≤ 0)) : L' = sortS L :=
 List.Perm.eq_of_pairwise (fun a b _ _ h1 h2 => by have := cmpS_neg a b; exact (cmpS_zero a b).1 (by omega)) h (leS_sorted L) (hp.trans (List.mergeSort_perm L leS).symm)
/-- An element: its value, and what it holds in every world that keeps all blocks but g. -/
structure ElemIn (w : World) (g : Nat) where
 v : Value
 x : List S60
 h : ∃ A c, v = .slice A x.length c ∧ x.length ≤ c ∧ ∀ w' : World, (∀ k, k < w.heap.size → k ≠ g → w'.heap[k]? = w.heap[k]?) → Kd.C k60 w' A x.length x
instance (w : World) (g : Nat) : Inhabited (ElemIn w g) := ⟨⟨.slice none 0 0, [], none, 0, rfl, Nat.le_refl _, fun w' _ => Kd.C_nil _ w'⟩⟩
theorem elem_of {base : Nat} {ok : Nat → Prop} {w : World} {g : Nat} {v : Value} {x : List S60} (h : Kd.R k60 60 w base (fun k => ok k ∧ k ≠ g) v x) :
  ∃ A c, v = .slice A x.length c ∧ x.length ≤ c ∧ ∀ w' : World, (∀ k, k < w.heap.size → k ≠ g → w'.heap[k]? = w.heap[k]?) → Kd.C k60 w' A x.length x := by
 obtain ⟨A, c, rfl⟩ := Kd.R_slice h
 refine ⟨A, c, rfl, (Kd.R_reads' h).2.1, fun w' hw => ?_⟩
 exact (Kd.R_reads' (Kd.R_step h (fun k hk hl => hw k hl hk.2))).2.2
theorem sortW_heap {α : Type} [Inhabited α] (enc : α → Value) (w : World) (g m : Nat) (d : Array α) (os : Array Obj) (hg : g < w.heap.size) : ∀ k, k < w.heap.size → k ≠ g → (Go.Proofs.sortWorld enc w g 0 m d os).heap[k]? = w.heap[k]? := by
 intro k hk hn
 show ((w.heap.modify g _) ++ os)[k]? = _
 rw [Array.getElem?_append_left (by simpa using hk), Array.getElem?_modify, if_neg (by omega)]
set_option maxHeartbeats 2000000 in
theorem sortShapes_calls (w : World) (base : Nat) (ok : Nat → Prop) (g cap : Nat) (cs : List (Value × List S60)) (tail : List Value) (hR : RoR k60 60 24 base ok w g cs tail) (hl : cs.length < 4611686018427387904) :
  Calls Tryz.prog 59 #[.slice (some ⟨g, 0, none⟩) cs.length cap, .func (.func 60) #[] #[]] w fun e w' => e = .returned (.tuple #[]) ∧ ∃ cs', cs'.length = cs.length ∧ cs'.map (·.2) = sortS (cs.map (·.2)) ∧ RoR k60 60 24 base ok w' g cs' tail ∧ ButB g w w' := by
 have hg : g < w.heap.size := blk_lt hR.blk
 obtain ⟨es, hes⟩ : ∃ es : List (ElemIn w g), es.map (fun e => (e.v, e.x)) = cs := by
  refine ⟨cs.attach.map (fun p => (⟨p.1.1, p.1.2, elem_of (hR.el p.1 p.2)⟩ : ElemIn w g)), ?_⟩
  rw [List.map_map]
  exact List.attach_map_subtype_val cs
 have hel : es.length = cs.length := by rw [← hes, List.length_map]
 have eg : ∀ args w, (callFunc 60 args).run Tryz.prog w = .ok (.enter 60 args) w := enters_of Tryz.func60 kr_ rfl
 have hO : Sort.SWO (ltOf fun x y : ElemIn w g => cmpS x.x y.x) := by
  refine ⟨fun x => ?_, fun x y z h1 h2 => ?_, fun x y z h1 h2 => ?_⟩
  ·simp only [ltOf, decide_eq_false_iff_not]
   rw [cmpS_self]
   omega
  ·simp only [ltOf, decide_eq_true_eq] at *
   exact cmpS_trans _ _ _ h1 h2
  ·simp only [ltOf, decide_eq_false_iff_not] at *
   have e1 := cmpS_neg x.x y.x
   have e2 := cmpS_neg y.x z.x
   have e3 := cmpS_neg x.x z.x
   have := cmpS_le_trans z.x y.x x.x (by omega) (by omega)
   omega
 have hcmp : CmpLays1 Tryz.prog 60 #[] (fun x : ElemIn w g => x.v) (fun x y => cmpS x.x y.x) g 0 es.toArray.size w := by
  intro m os dk _ x y
  obtain ⟨A0, c0, e0, l0, r0⟩ := x.h
  obtain ⟨A1, c1, e1, l1, r1⟩ := y.h
  have h := compareShapes_grew A0 c0 x.x A1 c1 y.x (cmpS x.x y.x) (Go.Proofs.sortWorld (fun x : ElemIn w g => x.v) w g 0 m dk os) (r0 _ (sortW_heap _ w g m dk os hg)) l0 (r1 _ (sortW_heap _ w g m dk os hg)) l1 rfl
  rw [← e0, ← e1] at h
  exact h
 have hH : Sort.Holds (fun x : ElemIn w g => x.v) w g 0 es.toArray := fun j hj => by
  have hj' : j < es.length := by simpa using hj
  refine ⟨?_, blk_frozen hR.blk _⟩
  rw [Nat.zero_add, blk_cell hR.blk, List.getElem?_toArray, List.getElem?_append_left (by simp; omega), List.getElem?_map, ← hes, List.getElem?_map, List.getElem?_eq_getElem hj', getElem!_pos es.toArray j hj]
  rfl
 have h := Any.slices_SortFunc Tryz.sortS (fun x : ElemIn w g => x.v) (fun x => by obtain ⟨A, c, e, _⟩ := x.h; show x.v.oneCell' = true; rw [e]; rfl) (fun x y => cmpS x.x y.x) hO 60 #[] g 0 cap es.toArray w eg hcmp hH hg (by simpa [hel] using hl)
 change Calls Tryz.prog 59 _ _ _ at h
 simp only [List.size_toArray, hel] at h
 refine h.mono ?_
 rintro e w' ⟨rfl, d', n, os, hP, hS, rfl⟩
 obtain ⟨hsz, _, hperm⟩ := hP
 have hsz' : d'.size = cs.length := by rw [hsz, List.size_toArray, hel]
 have e1 : d'.extract 0 cs.length = d' := by rw [← hsz']; exact Array.extract_size
 have e2 : es.toArray.extract 0 cs.length = es.toArray := by rw [← hel, ← List.size_toArray]; exact Array.extract_size
 rw [e1, e2] at hperm
 replace hperm : d'.toList.Perm es := hperm
 have hlen : (d'.toList.map (fun e => (e.v, e.x))).length = cs.length := by rw [List.length_map, Array.length_toList, hsz']
 have hpc : (d'.toList.map (fun e => (e.v, e.x))).Perm cs := by rw [← hes]; exact hperm.map _
 refine ⟨rfl, d'.toList.map (fun e => (e.v, e.x)), hlen, sortS_of (hpc.map _) ?_, hR.step (fun p hp => (hpc.mem_iff).1 hp) ?_ (sortW_heap _ w g n d' os hg), ⟨rfl, rfl, rfl, ?_, sortW_heap _ w g n d' os hg⟩⟩
 ·rw [List.map_map, List.pairwise_map, List.pairwise_iff_getElem]
  intro i j hi hj hij
  have hj' : j < d'.size := by simpa using hj
  have h3 := hS i j (Nat.zero_le _) hij (by omega)
  rw [getElem!_pos d' i (by omega), getElem!_pos d' j hj'] at h3
  simp only [ltOf, decide_eq_false_iff_not] at h3
  have := cmpS_neg d'[i].x d'[j].x
  simp only [Function.comp_apply, Array.getElem_toList]
  omega
 ·show ((w.heap.modify g _) ++ os)[g]? = _
  rw [Array.getElem?_append_left (by simpa using hg), Array.getElem?_modify, if_pos rfl, hR.blk]
  simp only [Option.map_some, Sort.onCells]
  congr 2
  apply Array.ext_getElem?
  intro j
  simp only [Sort.putCells, Array.getElem?_mapIdx, List.getElem?_toArray]
  by_cases hj : j < cs.length
  ·rw [List.getElem?_append_left (by simpa using hj), List.getElem?_append_left (by rw [List.length_map, hlen]; exact hj), List.getElem?_map, List.getElem?_eq_getElem hj, List.getElem?_map, List.getElem?_map, Array.getElem?_toList, Array.getElem?_eq_getElem (by omega)]
   simp only [Option.map_some]
   rw [if_pos ⟨Nat.zero_le _, by omega⟩, Nat.sub_zero, getElem!_pos d' j (by omega)]
  ·rw [List.getElem?_append_right (by simp; omega), List.getElem?_append_right (by rw [List.length_map, hlen]; omega), List.length_map, List.length_map, hlen]
   cases tail[j - cs.length]? with
   | none => rfl
   | some u => simp only [Option.map_some]; rw [if_neg (by omega)]
 ·show w.heap.size ≤ ((w.heap.modify g _) ++ os).size
  simp
theorem setCells_blk (g t : Nat) (fz : Nat × Nat) : ∀ (vs pre mid post : List Value) (w : World), mid.length = vs.length → w.heap[g]? = some (.cells (pre ++ (mid ++ post)).toArray t fz) → (w.setCells g pre.length vs).heap[g]? = some (.cells (pre ++ (vs ++ post)).toArray t fz)
 | [], pre, mid, post, w, hl, h => by
  obtain rfl : mid = [] := List.length_eq_zero_iff.1 hl
  exact h
 | v :: vs, pre, mid, post, w, hl, h => by
  cases mid with
  | nil => simp at hl
  | cons m mid =>
   have h1 : (w.setCell ⟨g, pre.length, none⟩ v).heap[g]? = some (.cells ((pre ++ [v]) ++ (mid ++ post)).toArray t fz) := by
    rw [Sort.setCell_eq]
    show (w.heap.modify g _)[g]? = _
    rw [Array.getElem?_modify, if_pos rfl, h]
    simp only [Option.map_some, Sort.onCells]
    congr 2
    apply Array.toList_inj.1
    rw [Array.toList_setIfInBounds, List.cons_append, List.set_append_right _ _ (Nat.le_refl _), Nat.sub_self, List.set_cons_zero]
    simp
   have := setCells_blk g t fz vs (pre ++ [v]) mid post _ (by simpa using hl) h1
   rw [List.length_append] at this
   simpa [World.setCells] using this
theorem setCells_but (g : Nat) : ∀ (vs : List Value) (o : Nat) (w w0 : World), ButB g w0 w → ButB g w0 (w.setCells g o vs)
 | [], _, _, _, h => h
 | v :: vs, o, w, w0, h => setCells_but g vs (o + 1) _ w0 (h.set o v)
theorem keep_one (cs : List (Value × List S60)) (h : cs.length ≤ 1) : keepS cs = cs := by
 cases cs with
 | nil => rfl
 | cons x r => cases r with
  | nil => rfl
  | cons y r => simp at h
set_option maxHeartbeats 4000000 in
set_option maxRecDepth 100000 in
theorem compactShapes_calls (w : World) (base : Nat) (ok : Nat → Prop) (g cap : Nat) (cs : List (Value × List S60)) (tail : List Value) (hR : RoR k60 60 24 base ok w g cs tail) (hc : cs.length + tail.length = cap) (hm : cap ≤ maxLen) :
  Calls Tryz.prog 61 #[.slice (some ⟨g, 0, none⟩) cs.length cap, .func (.func 62) #[] #[]] w fun e w' => e = .returned (.slice (some ⟨g, 0, none⟩) (keepS cs).length cap) ∧ (∃ tail', (keepS cs).length + tail'.length = cap ∧ RoR k60 60 24 base ok w' g (keepS cs) tail') ∧ ButB g w w' := by
 have HR := Aside0.mk hR
 have HC := a0_ (And.intro hc (show cap ≤ 9223372036854775807 from hm))
 have hel : ∀ j (hj : j < cs.length), ∃ A c, cs[j].1 = .slice A cs[j].2.length c ∧ cs[j].2.length ≤ c ∧ ∀ w' : World, (∀ k, k < w.heap.size → k ≠ g → w'.heap[k]? = w.heap[k]?) → Kd.C k60 w' A cs[j].2.length cs[j].2 := fun j hj => elem_of (hR.el _ (List.getElem_mem hj))
 have HE := Aside0.mk hel
 clear hR hc hm hel
 by_cases h2 : cs.length < 2
 ·have d0 : decide ((cs.length : Int) < 2) = true := decide_eq_true (by omega)
  have d1 : decide (cs.length < 2) = true := decide_eq_true h2
  have HK := a0_ (keep_one cs (by omega))
  clear h2
  go_enter Tryz.func61, Tryz.ntmps61
  go_wp2
  go_ret
  rw [HK.out]
  exact ⟨rfl, ⟨tail, HC.out.1, HR.out⟩, ButB.refl _ _⟩
 ·have d0 : decide ((cs.length : Int) < 2) = false := decide_eq_false (by omega)
  have d1 : decide (cs.length < 2) = false := decide_eq_false h2
  have H2 := Aside0.mk h2
  clear h2
  go_enter Tryz.func61, Tryz.ntmps61
  go_wp2
  clear d0 d1
  go_loopg [5] cs.length (fun kq v5 w' => ∃ k : Nat, v5 = .int .i64 k ∧ Aside0 (1 ≤ k ∧ k ≤ cs.length ∧ cs.length ≤ kq + k) ∧ Aside0 (keepS (cs.take k) = cs.take k) ∧ Aside0 (Below w.heap.size w w'))
  case atStart => exact ⟨1, rfl, ⟨by have := H2.out; omega⟩, ⟨keep_one _ (by simp [List.length_take]; omega)⟩, ⟨Below.refl _ _⟩⟩
  case round =>
   obtain ⟨k, rfl, HK, HT, HB⟩ := hrel
   by_cases hk : k < cs.length
   ·have hk1 := HK.out.1
    have d0 : decide ((k : Int) < (cs.length : Int)) = true := decide_eq_true (by omega)
    have d1 : decide (k < cs.length) = true := decide_eq_true hk
    have q0 : (0 ≤ (k : Int)) = True := eq_true (by omega)
    have q1 : ((k : Int) < (cs.length : Int)) = True := eq_true (by omega)
    have q2 : (k < cs.length) = True := eq_true hk
    have hw1 : wrap64 ((k : Int) - 1) = ((k - 1 : Nat) : Int) := by have := HC.out; unfold wrap64; omega
    have hw2 : wrap64 ((k : Int) + 1) = ((k + 1 : Nat) : Int) := by have := HC.out; unfold wrap64; omega
    have q3 : (0 ≤ ((k - 1 : Nat) : Int)) = True := eq_true (by omega)
    have q4 : (((k - 1 : Nat) : Int) < (cs.length : Int)) = True := eq_true (by omega)
    have HW := a0_ (And.intro hw1 hw2)
    have hw3 : IntKind.i64.wrap ((k : Int) - 1) = ((k - 1 : Nat) : Int) := (i64_w _).trans hw1
    have hbk := blk_below HR.out.blk HB.out
    have hcell : ∀ j (hj : j < cs.length), wr.cell? ⟨g, j, none⟩ = some cs[j].1 := fun j hj => by
     rw [blk_cell hbk, List.getElem?_toArray, List.getElem?_append_left (by simpa using hj), List.getElem?_map, List.getElem?_eq_getElem hj]
     rfl
    have hk0 : k - 1 < cs.length := by omega
    have q5 : (k - 1 < cs.length) = True := eq_true hk0
    have q6 : decide (k - 1 < cs.length) = true := decide_eq_true hk0
    have q7 : decide (0 ≤ ((k - 1 : Nat) : Int)) = true := decide_eq_true (by omega)
    obtain ⟨P, hP⟩ : ∃ P, P = cs[k] := ⟨_, rfl⟩
    obtain ⟨O, hO⟩ : ∃ O, O = cs[k - 1]'hk0 := ⟨_, rfl⟩
    have x0 := hcell k hk
    have x1 := hcell (k - 1) hk0
    obtain ⟨A0, c0, e0, l0, r0⟩ := HE.out k hk
    obtain ⟨A1, c1, e1, l1, r1⟩ := HE.out (k - 1) hk0
    have hkt := keepS_take cs k hk1 hk
    rw [← hP] at x0 e0 l0 r0 hkt
    rw [← hO] at x1 e1 l1 r1 hkt
    rw [e0] at x0
    rw [e1] at x1
    obtain ⟨kf, hkf⟩ := eqS_some P.2 O.2 (r0 w (fun _ _ _ => rfl)).2.1
    have hcall : ∀ W : World, Below wr.heap.size wr W → Calls Tryz.prog 62 #[.slice A0 P.2.length c0, .slice A1 O.2.length c1] W fun e w' => e = .returned (.bool (decide (cmpS P.2 O.2 = 0))) ∧ Drawn0 W w' := fun W hb => by
     have hall : ∀ q, q < w.heap.size → q ≠ g → W.heap[q]? = w.heap[q]? := fun q hq _ => (hb.block q (Nat.lt_of_lt_of_le hq HB.out.size)).trans (HB.out.block q hq)
     exact impl_equalShapes.calls kf A0 c0 _ A1 c1 _ _ W (r0 W hall) l0 (r1 W hall) l1 hkf
    have HPO := a0_ (And.intro hP hO)
    by_cases hz : cmpS P.2 O.2 = 0
    ·rw [if_pos hz, List.append_nil, HT.out] at hkt
     rw [decide_eq_true hz] at hcall
     have HCALL := Aside0.mk hcall
     have HKT := Aside0.mk hkt
     have HZ := Aside0.mk hz
     clear hkt hz hcall r0 r1 hkf hcell hbk e0 e1 l0 l1 hP hO
     generalize P.2.length = np at x0 HCALL
     generalize O.2.length = no at x1 HCALL
     go_wp2
     go_region_held3 (fun w' => w'.cell? ⟨g, k, none⟩ = some (.slice A0 np c0) ∧ w'.cell? ⟨g, k - 1, none⟩ = some (.slice A1 no c1)) (go_keep) ((go_at_call 62; (refine (HCALL.out _ ?_).mono ?_; exact below_drew1 (Below.refl _ _); rintro e w2 ⟨rfl, ⟨n, rfl⟩⟩)))
     clear x0 x1 HCALL q0 q1 q2 q3 q4 q5 q6 q7 hw1 hw2 hw3 d0 d1
     have hkn : k ≤ cs.length := by omega
     have g0 : (0 : Int) ≤ (k : Int) := by omega
     have g1 : (k : Int) ≤ (cs.length : Int) := by omega
     have g2 : cs.length ≤ cap := by have := HC.out; omega
     have g3 : k ≤ cap := by have := HC.out; omega
     have g4 : ¬ cap = k := by have := HC.out; omega
     have HKN := Aside0.mk hk
     clear HPO hk0 hk
     go_wp2
     clear g0 g1 g4
     have R0 : Aside0 ((wr.drewN (1 + n)).heap[g]? = some (.cells (cs.map (·.1) ++ tail).toArray 24 (0, 0))) := ⟨blk_below HR.out.blk (pw_below_drewN HB.out _)⟩
     have B0 : Aside0 (ButB g w (wr.drewN (1 + n))) := ⟨(ButB.refl g w).below (pw_below_drewN HB.out _)⟩
     go_loopg [5, 7] cs.length (fun kq v5 v7 w' => ∃ (kk m : Nat) (X : List Value), v5 = .int .i64 kk ∧ v7 = .int .i64 m ∧ Aside0 ((1 ≤ m ∧ k + m ≤ cs.length ∧ cs.length ≤ kq + m) ∧ kk = (keepS (cs.take (k + m))).length ∧ kk < k + m) ∧ Aside0 (X.length = cs.length ∧ (∀ j, j < kk → X[j]? = (keepS (cs.take (k + m)))[j]?.map (·.1)) ∧ ∀ j, k + m - 1 ≤ j → X[j]? = (cs.map (·.1))[j]?) ∧ Aside0 (w'.heap[g]? = some (.cells (X ++ tail).toArray 24 (0, 0))) ∧ Aside0 (ButB g w w'))
     case atStart =>
      refine ⟨k, 1, cs.map (·.1), rfl, rfl, ⟨?_⟩, ⟨by simp, fun j hj => ?_, fun j _ => rfl⟩, R0, B0⟩
      ·rw [HKT.out, List.length_take]
       have := HKN.out
       omega
      ·rw [HKT.out, List.getElem?_take_of_lt hj, List.getElem?_map]
     case round =>
      clear R0 B0
      obtain ⟨kk, m, X, rfl, rfl, HI, HX, HW2, HBB⟩ := hrel
      by_cases hm : k + m < cs.length
      ·have hm1 := HI.out.1.1
       have d0 : decide ((m : Int) < ((cs.length - k : Nat) : Int)) = true := decide_eq_true (by omega)
       have d1 : decide (m < cs.length - k) = true := decide_eq_true (by omega)
       have q0 : (0 ≤ (m : Int)) = True := eq_true (by omega)
       have q1 : ((m : Int) < ((cs.length - k : Nat) : Int)) = True := eq_true (by omega)
       have q2 : (m < cs.length - k) = True := eq_true (by omega)
       have hw1 : wrap64 ((m : Int) - 1) = ((m - 1 : Nat) : Int) := by have := HC.out; unfold wrap64; omega
       have hw2 : wrap64 ((m : Int) + 1) = ((m + 1 : Nat) : Int) := by have := HC.out; unfold wrap64; omega
       have hw3 : IntKind.i64.wrap ((m : Int) - 1) = ((m - 1 : Nat) : Int) := (i64_w _).trans hw1
       have hw4 : wrap64 ((kk : Int) + 1) = ((kk + 1 : Nat) : Int) := by have := HC.out; have := HI.out.2.2; unfold wrap64; omega
       have q3 : (0 ≤ ((m - 1 : Nat) : Int)) = True := eq_true (by omega)
       have q4 : (((m - 1 : Nat) : Int) < ((cs.length - k : Nat) : Int)) = True := eq_true (by omega)
       have q5 : (m - 1 < cs.length - k) = True := eq_true (by omega)
       have HW := a0_ (And.intro hw2 hw4)
       have hk0 : k + m - 1 < cs.length := by omega
       obtain ⟨P, hP⟩ : ∃ P, P = cs[k + m] := ⟨_, rfl⟩
       obtain ⟨O, hO⟩ : ∃ O, O = cs[k + m - 1]'hk0 := ⟨_, rfl⟩
       have hcell : ∀ j v, X[j]? = some v → wr.cell? ⟨g, j, none⟩ = some v := fun j v hv => by
        rw [blk_cell HW2.out, List.getElem?_toArray, List.getElem?_append_left (List.getElem?_eq_some_iff.1 hv).1]
        exact hv
       have x0 := hcell (k + m) P.1 (by rw [HX.out.2.2 _ (by omega), List.getElem?_map, List.getElem?_eq_getElem hm, hP]; rfl)
       have x1 := hcell (k + (m - 1)) O.1 (by rw [HX.out.2.2 _ (by omega), List.getElem?_map, show k + (m - 1) = k + m - 1 by omega, List.getElem?_eq_getElem hk0, hO]; rfl)
       have hkk : kk < X.length := by have := HI.out.2.2; have := HX.out.1; omega
       obtain ⟨old, hold⟩ : ∃ old, X[kk]? = some old := ⟨_, List.getElem?_eq_getElem hkk⟩
       have x2 := hcell kk old hold
       clear hold
       have f2 : wr.frozen? ⟨g, kk, none⟩ = false := blk_frozen HW2.out _
       obtain ⟨A2, c2, e0, l0, r0⟩ := HE.out (k + m) hm
       obtain ⟨A3, c3, e1, l1, r1⟩ := HE.out (k + m - 1) hk0
       have hkt := keepS_take cs (k + m) (by omega) hm
       rw [← hP] at e0 l0 r0 hkt
       rw [← hO] at e1 l1 r1 hkt
       rw [e0] at x0
       rw [e1] at x1
       obtain ⟨kf, hkf⟩ := eqS_some P.2 O.2 (r0 w (fun _ _ _ => rfl)).2.1
       have hcall : ∀ W : World, Below wr.heap.size wr W → Calls Tryz.prog 62 #[.slice A2 P.2.length c2, .slice A3 O.2.length c3] W fun e w' => e = .returned (.bool (decide (cmpS P.2 O.2 = 0))) ∧ Drawn0 W w' := fun W hb => by
        have hall : ∀ q, q < w.heap.size → q ≠ g → W.heap[q]? = w.heap[q]? := fun q hq hn => (hb.block q (Nat.lt_of_lt_of_le hq HBB.out.size)).trans (HBB.out.block q hq hn)
        exact impl_equalShapes.calls kf A2 c2 _ A3 c3 _ _ W (r0 W hall) l0 (r1 W hall) l1 hkf
       by_cases hz : cmpS P.2 O.2 = 0
       ·rw [if_pos hz, List.append_nil] at hkt
        rw [decide_eq_true hz] at hcall
        have HCALL := Aside0.mk hcall
        have HKT2 := Aside0.mk hkt
        have HM := Aside0.mk hm
        clear hkt hz hcall r0 r1 hkf hcell e0 e1 l0 l1 hP hO x2 f2 hkk
        generalize P.2.length = np2 at x0 HCALL
        generalize O.2.length = no2 at x1 HCALL
        go_wp2
        go_region_held3 (fun w' => w'.cell? ⟨g, k + m, none⟩ = some (.slice A2 np2 c2) ∧ w'.cell? ⟨g, k + (m - 1), none⟩ = some (.slice A3 no2 c3)) (go_keep) ((go_at_call 62; (refine (HCALL.out _ ?_).mono ?_; exact below_drew1 (Below.refl _ _); rintro e w2 ⟨rfl, ⟨n2, rfl⟩⟩)))
        go_wp2
        go_roundg (cs.length - (m + 1))
        case measure => (have := HI.out.1; have := HM.out; omega)
        case rel => exact ⟨kk, m + 1, X, rfl, congrArg (Value.int .i64) HW.out.1, ⟨by have := HI.out.1; have := HM.out; omega, by rw [← Nat.add_assoc, HKT2.out]; exact HI.out.2.1, by have := HI.out.2.2; omega⟩, ⟨HX.out.1, fun j hj => by rw [← Nat.add_assoc, HKT2.out]; exact HX.out.2.1 j hj, fun j hj => HX.out.2.2 j (by omega)⟩, ⟨HW2.out⟩, ⟨HBB.out.below (pw_below_drewN (Below.refl _ _) _)⟩⟩
       ·rw [if_neg hz] at hkt
        rw [decide_eq_false hz] at hcall
        have HCALL := Aside0.mk hcall
        have HKT2 := Aside0.mk hkt
        have HM := Aside0.mk hm
        have HPE := Aside0.mk e0
        have hX2 : ∀ W : World, W.heap[g]? = wr.heap[g]? → (W.setCell ⟨g, kk, none⟩ (.slice A2 P.2.length c2)).heap[g]? = some (.cells (X.set kk (.slice A2 P.2.length c2) ++ tail).toArray 24 (0, 0)) := fun W hW => by
         refine blk_put (hW.trans HW2.out) kk _ ?_
         apply Array.toList_inj.1
         rw [Array.toList_setIfInBounds, List.set_append_left _ _ hkk]
        have HX2 := Aside0.mk hX2
        clear hX2
        have HKX := Aside0.mk hkk
        clear hkt hz hcall r0 r1 hkf hcell e1 l0 l1 hP hO hkk e0
        generalize hnp : P.2.length = np2 at x0 HCALL HX2 HPE
        generalize O.2.length = no2 at x1 HCALL
        have u0 : (0 ≤ (kk : Int)) = True := eq_true (by omega)
        have u1 : ((kk : Int) < (cs.length : Int)) = True := eq_true (by have := HKX.out; have := HX.out.1; omega)
        have u2 : (kk < cs.length) = True := eq_true (by have := HKX.out; have := HX.out.1; omega)
        clear hnp
        go_wp2
        go_region_held3 (fun w' => w'.cell? ⟨g, k + m, none⟩ = some (.slice A2 np2 c2) ∧ w'.cell? ⟨g, k + (m - 1), none⟩ = some (.slice A3 no2 c3) ∧ w'.cell? ⟨g, kk, none⟩ = some old ∧ w'.frozen? ⟨g, kk, none⟩ = false) (go_keep) ((go_at_call 62; (refine (HCALL.out _ ?_).mono ?_; exact below_drew1 (Below.refl _ _); rintro e w2 ⟨rfl, ⟨n2, rfl⟩⟩)))
        go_wp2
        go_roundg (cs.length - (m + 1))
        case measure => (have := HI.out.1; have := HM.out; omega)
        case rel =>
         have hle := HKX.out
         have hlen := HX.out.1
         have hi := HI.out
         have hk2 : (keepS (cs.take (k + (m + 1)))).length = kk + 1 := by rw [← Nat.add_assoc, HKT2.out, List.length_append, ← hi.2.1]; rfl
         refine ⟨kk + 1, m + 1, X.set kk (.slice A2 np2 c2), congrArg (Value.int .i64) HW.out.2, congrArg (Value.int .i64) HW.out.1, ⟨by have := HM.out; omega, hk2.symm, by omega⟩, ⟨by rw [List.length_set]; exact hlen, fun j hj => ?_, fun j hj => ?_⟩, ⟨HX2.out _ rfl⟩, ⟨(HBB.out.below (pw_below_drewN (Below.refl _ _) _)).set _ _⟩⟩
         ·rw [← Nat.add_assoc, HKT2.out]
          by_cases e : j = kk
          ·subst e
           rw [List.getElem?_set_self hle, List.getElem?_append_right (by omega), hi.2.1, Nat.sub_self, ← HPE.out]
           rfl
          ·rw [List.getElem?_set_ne (by omega), HX.out.2.1 j (by omega), List.getElem?_append_left (by omega)]
         ·rw [List.getElem?_set_ne (by omega)]
          exact HX.out.2.2 j (by omega)
      ·have hend : k + m = cs.length := by have := HI.out.1; omega
       have hlt := HI.out.2.2
       have hkl := HI.out.2.1
       rw [hend, List.take_length] at hkl
       have hcc := HC.out
       have d0 : decide ((m : Int) < ((cs.length - k : Nat) : Int)) = false := decide_eq_false (by omega)
       have d1 : decide (m < cs.length - k) = false := decide_eq_false (by omega)
       have g0 : (0 : Int) ≤ (kk : Int) := by omega
       have g1 : (kk : Int) ≤ (cs.length : Int) := by omega
       have g4 : ¬ cap = kk := by omega
       have g5 : kk ≤ cs.length := by omega
       have g6 : kk ≤ cap := by omega
       have hXt : X = X.take kk ++ X.drop kk := (List.take_append_drop _ _).symm
       have hblk : wr.heap[g]? = some (.cells (X.take kk ++ (X.drop kk ++ tail)).toArray 24 (0, 0)) := by rw [← List.append_assoc, List.take_append_drop]; exact HW2.out
       have hset := setCells_blk g 24 (0, 0) (List.replicate (cs.length - kk) (.slice none 0 0)) (X.take kk) (X.drop kk) tail wr (by rw [List.length_drop, List.length_replicate, HX.out.1]) hblk
       rw [show (X.take kk).length = kk by rw [List.length_take, HX.out.1]; omega] at hset
       have hkp : X.take kk = (keepS cs).map (·.1) := by
        refine List.ext_getElem? (fun j => ?_)
        by_cases hj : j < kk
        ·have := HX.out.2.1 j hj
         rw [hend, List.take_length] at this
         rw [List.getElem?_take_of_lt hj, this, List.getElem?_map]
        ·rw [List.getElem?_eq_none (by simp; omega), List.getElem?_eq_none (by rw [List.length_map]; omega)]
       rw [hkp] at hset
       have hcl : ∀ ty, (Builtin.clear_ #[31] ty #[.slice (some ⟨g, kk, none⟩) (cs.length - kk) (cap - kk)]).run Tryz.prog wr = .ok (.tuple #[]) (wr.setCells g kk (List.replicate (cs.length - kk) (.slice none 0 0))) := fun ty =>
        Lib.run_clear_slice wr _ _ ty _ Tryz.underlying31 Tryz.zeroValue24 rfl rfl g kk _ _ (by omega) (fun j hj => by
         rw [blk_cell HW2.out, List.getElem?_toArray, List.getElem?_append_left (by rw [HX.out.1]; omega), List.getElem?_eq_getElem (by rw [HX.out.1]; omega)]
         rfl) (fun j hj => blk_frozen HW2.out _)
       have HSET := Aside0.mk hset
       have HSB := a0_ (setCells_but g (List.replicate (cs.length - kk) (.slice none 0 0)) kk wr w HBB.out)
       have HKL := Aside0.mk hkl
       have HLT := a0_ (show kk < cs.length by omega)
       clear hset hkp hXt hblk hkl hcc hend hlt hm
       go_wp2
       go_ret
       refine ⟨by rw [← HKL.out]; rfl, ⟨List.replicate (cs.length - kk) (.slice none 0 0) ++ tail, ?_, HR.out.step (keepS_sub cs) HSET.out HSB.out.block⟩, HSB.out⟩
       rw [← HKL.out, List.length_append, List.length_replicate]
       have := HC.out.1
       have := HLT.out
       omega
    ·rw [if_neg hz, HT.out] at hkt
     rw [decide_eq_false hz] at hcall
     have HCALL := Aside0.mk hcall
     have HKT : Aside0 (keepS (cs.take (k + 1)) = cs.take (k + 1)) := ⟨by rw [hkt, hP, List.take_succ_eq_append_getElem hk]⟩
     have HKN := Aside0.mk hk
     clear hkt hz hcall r0 r1 hkf hcell hbk e0 e1 l0 l1 hP hO
     generalize P.2.length = np at x0 HCALL
     generalize O.2.length = no at x1 HCALL
     go_wp2
     go_region_held3 (fun w' => w'.cell? ⟨g, k, none⟩ = some (.slice A0 np c0) ∧ w'.cell? ⟨g, k - 1, none⟩ = some (.slice A1 no c1)) (go_keep) ((go_at_call 62; (refine (HCALL.out _ ?_).mono ?_; exact below_drew1 (Below.refl _ _); rintro e w2 ⟨rfl, ⟨n, rfl⟩⟩)))
     go_wp2
     go_roundg (cs.length - (k + 1))
     case measure => (have := HK.out; have := HKN.out; omega)
     case rel => exact ⟨k + 1, congrArg (Value.int .i64) HW.out.2, ⟨by have := HK.out; have := HKN.out; omega⟩, HKT, ⟨pw_below_drewN HB.out _⟩⟩
   ·obtain rfl : k = cs.length := by have := HK.out; omega
    have d0 : decide ((cs.length : Int) < (cs.length : Int)) = false := decide_eq_false (by omega)
    have d1 : decide (cs.length < cs.length) = false := decide_eq_false (by omega)
    have hks := HT.out
    rw [List.take_length] at hks
    have HKS := Aside0.mk hks
    clear hks hk
    go_wp2
    go_ret
    rw [HKS.out]
    exact ⟨rfl, ⟨tail, HC.out.1, HR.out.step (fun p hp => hp) (blk_below HR.out.blk HB.out) (fun q hq _ => HB.out.block q hq)⟩, (ButB.refl g w).below HB.out⟩
def impl_tidyShapes.f (L : List (List S60)) : Option (List (List S60)) := some (tidyL L)
set_option maxHeartbeats 1000000 in
/-- tidyShapes, called with a row of rows of the caller's own: the same row, sorted and each shape once; nothing below 'base' turns. -/
theorem impl_tidyShapes.calls (L : List (List S60)) (v : Value) (w0 w : World) (base : Nat) (ok : Nat → Prop) (hB : Below base w0 w) (hb0 : base ≤ w0.heap.size) (hR : (Kd.slice 60 k60).R 24 w base ok v L) (hl : L.length < 4611686018427387904) :
  Calls Tryz.prog 41 #[v] w fun e w' => ∃ u, e = .returned u ∧ (Kd.slice 60 k60).R 24 w' base ok u (tidyL L) ∧ Below base w0 w' := by
 rcases RoR.of_R hR with ⟨rfl, rfl⟩ | ⟨g, cap, cs, tail, rfl, hcs, hct, hm, hrows⟩
 ·have h1 := fun W => AnyF.slices_SortFunc_none (P := Tryz.prog) { Tryz.sortS with } none 0 (.func (.func 60) #[] #[]) W
  have h2 : ∀ W : World, Calls Tryz.prog 61 #[.slice none 0 0, .func (.func 62) #[] #[]] W fun e w' => e = .returned (.slice none 0 0) ∧ w' = W := fun W => by
   go_enter Tryz.func61, Tryz.ntmps61
   go_wp2
   go_ret
   exact ⟨rfl, rfl⟩
  have HR := Aside0.mk hR
  have HB := Aside0.mk hB
  clear hR hB
  go_enter Tryz.func41, Tryz.ntmps41
  go_wp2_with (first | (go_at_call 59; (refine (h1 _).mono ?_; rintro e w1 ⟨rfl, rfl⟩)) | (go_at_call 61; (refine (h2 _).mono ?_; rintro e w1 ⟨rfl, rfl⟩)))
  go_ret
  have ht : tidyL ([] : List (List S60)) = [] := by simp [tidyL, sortS, dedS]
  refine ⟨_, rfl, ?_, HB.out⟩
  rw [ht]
  exact HR.out
 ·have hlen : cs.length = L.length := by rw [← hcs, List.length_map]
  have hs := sortShapes_calls w base ok g cap cs tail hrows (by omega)
  rw [hlen] at hs
  have HCT := a0_ (And.intro hct hm)
  have HCS := Aside0.mk hcs
  have HB := Aside0.mk hB
  have HG := Aside0.mk hrows.ge
  have HLL := Aside0.mk hlen
  clear hR hB hrows hcs hct hm hlen
  go_enter Tryz.func41, Tryz.ntmps41
  go_wp2_with (first | (go_at_call 59; (refine hs.mono ?_; rintro e w1 ⟨rfl, cs', hl', hc', hr', hb'⟩; have HL' := a0_ (And.intro hl' hc'); have HR' := Aside0.mk hr'; have HB' := Aside0.mk hb'; clear hl' hc' hr' hb')) | (go_at_call 61; (have hk := compactShapes_calls w1 base ok g cap cs' tail HR'.out (by have := HCT.out.1; have := HLL.out; have := HL'.out.1; omega) HCT.out.2; rw [HL'.out.1] at hk; refine hk.mono ?_; clear hk; rintro e w2 ⟨rfl, ⟨tail', ht', hr2⟩, hb2⟩; have HT2 := Aside0.mk ht'; have HR2 := Aside0.mk hr2; have HB2 := Aside0.mk hb2; clear ht' hr2 hb2)))
  go_ret
  refine ⟨_, rfl, ?_, HB2.out.from_ (HB'.out.from_ HB.out hb0 HG.out) hb0 HG.out⟩
  have h3 := HR2.out.R HT2.out HCT.out.2
  rw [keepS_snd, HL'.out.2, HCS.out] at h3
  exact h3


/-! ### impl_turnCell: function 74 -/
mutual
def impl_turnCell.j0 : Nat → Int → Int → Int → Option (Int × Int)
 | 0, _, _, _ => none
 | k + 1, x1, x424000, x424001 => impl_turnCell.l0 k (Int.tmod x1 4) 0 x424000 x424001
def impl_turnCell.l0 : Nat → Int → Int → Int → Int → Option (Int × Int)
 | 0, _, _, _, _ => none
 | k + 1, x12, x13, x424000, x424001 => if x13 < x12 then (impl_turnCell.l0 k x12 (wrap64 (x13 + 1)) (wrap64 (-x424001)) x424000) else (some (x424000, x424001))
end
def impl_turnCell.f (k : Nat) (a0_0 : Int) (a0_1 : Int) (a1 : Int) : Option (Int × Int) := if a1 ≥ 4 then (impl_turnCell.j0 k a1 (wrap64 (-a0_0)) a0_1) else (impl_turnCell.j0 k a1 a0_0 a0_1)
theorem impl_turnCell.mono_l : ∀ k, (∀ y0 y1 y2, LeO (impl_turnCell.j0 k y0 y1 y2) (impl_turnCell.j0 (k + 1) y0 y1 y2)) ∧ (∀ y0 y1 y2 y3, LeO (impl_turnCell.l0 k y0 y1 y2 y3) (impl_turnCell.l0 (k + 1) y0 y1 y2 y3))
 | 0 => ⟨fun _ _ _ r h => by simp [impl_turnCell.j0] at h, fun _ _ _ _ r h => by simp [impl_turnCell.l0] at h⟩
 | k + 1 => by
  obtain ⟨ih0, ih1⟩ := impl_turnCell.mono_l k
  refine ⟨?_, ?_⟩
  ·intro y0 y1 y2
   unfold impl_turnCell.j0
   with_reducible (repeat' first | exact ih0 _ _ _ | exact ih1 _ _ _ _ | exact LeO.refl _ | exact LeO.none _ | refine LeO.ite ?_ ?_ | refine LeO.bind ?_ (fun _ => ?_))
  ·intro y0 y1 y2 y3
   unfold impl_turnCell.l0
   with_reducible (repeat' first | exact ih0 _ _ _ | exact ih1 _ _ _ _ | exact LeO.refl _ | exact LeO.none _ | refine LeO.ite ?_ ?_ | refine LeO.bind ?_ (fun _ => ?_))
theorem impl_turnCell.mono : ∀ a0 a1 a2 k, LeO (impl_turnCell.f k a0 a1 a2) (impl_turnCell.f (k + 1) a0 a1 a2) := by
 intro a0 a1 a2 k
 obtain ⟨ih0, ih1⟩ := impl_turnCell.mono_l k
 unfold impl_turnCell.f
 with_reducible (repeat' first | exact ih0 _ _ _ | exact ih1 _ _ _ _ | exact LeO.refl _ | exact LeO.none _ | refine LeO.ite ?_ ?_ | refine LeO.bind ?_ (fun _ => ?_))
set_option maxHeartbeats 8000000 in
set_option maxRecDepth 100000 in
theorem impl_turnCell.calls (k : Nat) (a0_0 : Int) (a0_1 : Int) (a1 : Int) (r1 : Int) (r2 : Int) (w : World) (h : impl_turnCell.f k a0_0 a0_1 a1 = some (r1, r2)) :
  Calls Tryz.prog 74 #[.agg #[.int .i64 a0_0, .int .i64 a0_1], .int .i64 a1] w fun e w' => e = .returned (.agg #[.int .i64 r1, .int .i64 r2]) ∧ Below w.heap.size w w' := by
 have hu60 := Tryz.underlying60
 have HB := a0_ (Below.refl w.heap.size w)
 have H := h
 clear h
 unfold impl_turnCell.f at H
 have HC3 := Aside0.mk H
 clear H
 go_enter Tryz.func74, Tryz.ntmps74
 go_upto_if 6 with (first | ((with_reducible refine gate_dst (N := 2) rfl ?_); refine bx_ (N := 2) (cs := #[.int .i64 a0_0, .int .i64 a0_1]) (t := 60) ?_; intro gb423 hg w4 hbox hb; have BK423 := a0_ (hbox); have GW423 := a0_ ((sz_ hg (bl0_) : w.heap.size ≤ gb423)); have GE423 := a0_ ((sz_ hg (bl0_) : w.heap.size ≤ gb423)); replace HB := a0_ (below_step (bl0_) hb); clear hb hbox hg) | ((with_reducible refine gate_dst (N := 4) rfl ?_); refine bx_ (N := 4) (cs := #[.int .i64 0, .int .i64 0]) (t := 60) ?_; intro gb424 hg w5 hbox hb; have BK424 := a0_ (hbox); have GW424 := a0_ ((sz_ hg (bl1_ GE423.out) : w.heap.size ≤ gb424)); have GE424 := a0_ ((sz_ hg (bl1_ GE423.out) : w.heap.size ≤ gb424)); replace HB := a0_ (below_step (bl1_ GE423.out) hb); have NB423_424 := a0_ ((nl_ hg BK423.out : gb423 ≠ gb424)); have NB424_423 := a0_ ((ng_ hg BK423.out : gb424 ≠ gb423)); replace BK423 := a0_ (bb_ BK423.out hb); clear hb hbox hg))
 (try simp only [Act.put, List.setIfInBounds_toArray, List.set_cons_zero, List.set_cons_succ])
 go_cut [] (fun wc => ∃ (kq : Nat) (x424000_2 : Int), Aside0 (impl_turnCell.j0 kq a1 x424000_2 a0_1 = some (r1, r2)) ∧ Aside0 (kq ≤ k) ∧ Aside0 (wc.heap[gb423]? = some (.cells #[.int .i64 x424000_2, .int .i64 a0_1] 60 (0, 0))) ∧ Aside0 (wc.heap[gb424]? = some (.cells #[.int .i64 0, .int .i64 0] 60 (0, 0))) ∧ Aside0 (Below w.heap.size w wc))
 case first =>
  have H := HC3.out
  clear HC3
  by_cases c6 : a1 ≥ 4
  ·rw [if_pos c6] at H
   have c6b0 : decide (4 ≤ a1) = true := decide_eq_true c6
   clear c6
   (first | rw [c6b0] | (simp only [i64_w, i32_w]; rw [c6b0]) | skip)
   have H' := Aside0.mk H
   clear H
   have hnb7 := NB423_424.out
   have hnc7 := NB424_423.out
   have hcz8_0 : w5.cell? ⟨gb423, 0, none⟩ = some (.int .i64 a0_0) := (blk_cell BK423.out 0).trans rfl
   have hcz8_1 : w5.cell? ⟨gb423, 1, none⟩ = some (.int .i64 a0_1) := (blk_cell BK423.out 1).trans rfl
   have hfz8_0 := blk_frozen BK423.out 0
   have hfz8_1 := blk_frozen BK423.out 1
   go_wp2
   go_meet
   case rel => exact ⟨_, (wrap64 (-a0_0)), H', ⟨by first | omega | exact Nat.le_refl _⟩, ⟨by (with_reducible repeat (first | refine blk_drewN ?_ _ | refine blk_drew ?_ | refine blk_alloc ?_ _)); refine blk_put (cs := #[.int .i64 a0_0, .int .i64 a0_1]) ?_ 0 _ rfl; (with_reducible repeat (first | refine blk_drewN ?_ _ | refine blk_drew ?_ | refine blk_alloc ?_ _)); exact BK423.out⟩, ⟨bf_ BK424.out NB424_423.out⟩, ⟨bl2_ GE423.out GE424.out⟩⟩
  ·rw [if_neg c6] at H
   have c6b0 : decide (4 ≤ a1) = false := decide_eq_false c6
   clear c6
   (first | rw [c6b0] | (simp only [i64_w, i32_w]; rw [c6b0]) | skip)
   have H' := Aside0.mk H
   clear H
   go_wp2
   go_meet
   case rel => exact ⟨_, (a0_0), H', ⟨by first | omega | exact Nat.le_refl _⟩, ⟨bk_ BK423.out⟩, ⟨bk_ BK424.out⟩, ⟨bl2_ GE423.out GE424.out⟩⟩
 case rest =>
  clear HC3
  try clear p2
  try clear c6
  try clear c6b0
  try clear p6
  try clear c7
  try clear hcz8_0
  try clear hcz8_1
  try clear hfz8_0
  try clear hfz8_1
  obtain ⟨kq, x424000_2, HA, HJ2, BK423, BK424, HB⟩ := hcut
  cases kq with
  | zero => exact absurd HA.out (by simp [impl_turnCell.j0])
  | succ kj2 =>
   have H := HA.out
   clear HA
   simp only [impl_turnCell.j0] at H
   have H' := Aside0.mk H
   clear H
   go_wp2
   go_loopg [13] kj2 (fun kq v13 w' => ∃ (x13_2 : Int) (x424000_2 : Int) (x424001_2 : Int), v13 = .int .i64 x13_2 ∧ Aside0 (impl_turnCell.l0 kq (Int.tmod a1 4) x13_2 x424000_2 x424001_2 = some (r1, r2)) ∧ Aside0 (kq ≤ kj2) ∧ Aside0 (w'.heap[gb423]? = some (.cells #[.int .i64 x424000_2, .int .i64 x424001_2] 60 (0, 0))) ∧ Aside0 (w'.heap[gb424]? = some (.cells #[.int .i64 0, .int .i64 0] 60 (0, 0))) ∧ Aside0 (Below w.heap.size w w'))
   case atStart => exact ⟨(0), (x424000_2), (a0_1), rs_, H', ⟨Nat.le_refl _⟩, ⟨bk_ BK423.out⟩, ⟨bk_ BK424.out⟩, ⟨bl2_ GE423.out GE424.out⟩⟩
   case round =>
    clear H'
    try clear p2
    try clear c6
    try clear c6b0
    try clear p6
    try clear c7
    try clear hcz8_0
    try clear hcz8_1
    try clear hfz8_0
    try clear hfz8_1
    try clear p2
    try clear p6
    obtain ⟨x13_2, x424000_2, x424001_2, rfl, HA, HK2, BK423, BK424, HB⟩ := hrel
    cases gk with
    | zero => exact absurd HA.out (by simp [impl_turnCell.l0])
    | succ k2 =>
     have H := HA.out
     clear HA
     simp only [impl_turnCell.l0] at H
     by_cases c9 : x13_2 < (Int.tmod a1 4)
     ·rw [if_pos c9] at H
      have c9b0 : decide (x13_2 < (Int.tmod a1 4)) = true := decide_eq_true c9
      clear c9
      have H' := Aside0.mk H
      clear H
      have hnb10 := NB423_424.out
      have hnc10 := NB424_423.out
      have hcz11_0 : wr.cell? ⟨gb423, 0, none⟩ = some (.int .i64 x424000_2) := (blk_cell BK423.out 0).trans rfl
      have hcz11_1 : wr.cell? ⟨gb423, 1, none⟩ = some (.int .i64 x424001_2) := (blk_cell BK423.out 1).trans rfl
      have hfz11_0 := blk_frozen BK423.out 0
      have hfz11_1 := blk_frozen BK423.out 1
      go_wp2
      go_roundg k2
      case measure => have := HJ2.out; have := HK2.out; omega
      case rel => exact ⟨(wrap64 (x13_2 + 1)), (wrap64 (-x424001_2)), (x424000_2), rs_, H', ⟨by have := HJ2.out; have := HK2.out; omega⟩, ⟨by (with_reducible repeat (first | refine blk_drewN ?_ _ | refine blk_drew ?_ | refine blk_alloc ?_ _)); refine blk_put (cs := #[.int .i64 (wrap64 (-x424001_2)), .int .i64 x424001_2]) ?_ 1 _ rfl; (with_reducible repeat (first | refine blk_drewN ?_ _ | refine blk_drew ?_ | refine blk_alloc ?_ _)); refine blk_put (cs := #[.int .i64 x424000_2, .int .i64 x424001_2]) ?_ 0 _ rfl; (with_reducible repeat (first | refine blk_drewN ?_ _ | refine blk_drew ?_ | refine blk_alloc ?_ _)); exact BK423.out⟩, ⟨bf_ BK424.out NB424_423.out⟩, ⟨bl2_ GE423.out GE424.out⟩⟩
     ·rw [if_neg c9] at H
      have c9b0 : decide (x13_2 < (Int.tmod a1 4)) = false := decide_eq_false c9
      clear c9
      simp only [Option.some.injEq, Prod.mk.injEq] at H
      obtain ⟨rfl, rfl⟩ := H
      have hnb12 := NB423_424.out
      have hnc12 := NB424_423.out
      have hcz13_0 : wr.cell? ⟨gb423, 0, none⟩ = some (.int .i64 x424000_2) := (blk_cell BK423.out 0).trans rfl
      have hcz13_1 : wr.cell? ⟨gb423, 1, none⟩ = some (.int .i64 x424001_2) := (blk_cell BK423.out 1).trans rfl
      have hfz13_0 := blk_frozen BK423.out 0
      have hfz13_1 := blk_frozen BK423.out 1
      have hcz14_0 : wr.cell? ⟨gb424, 0, none⟩ = some (.int .i64 0) := (blk_cell BK424.out 0).trans rfl
      have hcz14_1 : wr.cell? ⟨gb424, 1, none⟩ = some (.int .i64 0) := (blk_cell BK424.out 1).trans rfl
      have hfz14_0 := blk_frozen BK424.out 0
      have hfz14_1 := blk_frozen BK424.out 1
      go_wp2
      refine bodyPost_ret (results_cell_row rfl _ _ gb424 60 #[.int .i64 x424000_2, .int .i64 x424001_2] (0, 0) _ rfl (by (with_reducible repeat (first | refine blk_drewN ?_ _ | refine blk_drew ?_ | refine blk_alloc ?_ _)); refine blk_put (cs := #[.int .i64 x424000_2, .int .i64 0]) ?_ 1 _ rfl; (with_reducible repeat (first | refine blk_drewN ?_ _ | refine blk_drew ?_ | refine blk_alloc ?_ _)); refine blk_put (cs := #[.int .i64 0, .int .i64 0]) ?_ 0 _ rfl; (with_reducible repeat (first | refine blk_drewN ?_ _ | refine blk_drew ?_ | refine blk_alloc ?_ _)); exact BK424.out) Tryz.underlying60 rfl kr_) rfl ?_
      exact ⟨er_, bl2_ GE423.out GE424.out⟩

/-! ### impl_moved: function 88 -/
def impl_moved.l0 : Nat → Int → Int → List (S60) → List (S60) → Int → Int → Option ((List (S60)))
 | 0, _, _, _, _, _, _ => none
 | k + 1, x1, x2, x7, x13, x14, x15 => if x15 < x14 then (if 0 ≤ x15 then (if x15 < (x13.length : Int) then (if x7.length < 8796093022208 then (impl_moved.l0 k x1 x2 (x7 ++ [(⟨wrap64 (((rd_T60 x13 x15).f0) + x1), wrap64 (((rd_T60 x13 x15).f1) + x2)⟩ : S60)]) x13 x14 (wrap64 (x15 + 1))) else (none)) else (none)) else (none)) else (some x7)
def impl_moved.f (k : Nat) (l0 : List (S60)) (a1 : Int) (a2 : Int) : Option ((List (S60))) := if 0 ≤ (l0.length : Int) then (if ((l0.length : Int) : Int).toNat ≤ 17592186044416 then (impl_moved.l0 k a1 a2 (([] : List (S60))) l0 (l0.length : Int) 0) else (none)) else (none)
theorem impl_moved.mono_l : ∀ k, (∀ y0 y1 y2 y3 y4 y5, LeO (impl_moved.l0 k y0 y1 y2 y3 y4 y5) (impl_moved.l0 (k + 1) y0 y1 y2 y3 y4 y5))
 | 0 => fun _ _ _ _ _ _ r h => by simp [impl_moved.l0] at h
 | k + 1 => by
  have ih0 := impl_moved.mono_l k
  ·intro y0 y1 y2 y3 y4 y5
   unfold impl_moved.l0
   with_reducible (repeat' first | exact ih0 _ _ _ _ _ _ | exact LeO.refl _ | exact LeO.none _ | refine LeO.ite ?_ ?_ | refine LeO.bind ?_ (fun _ => ?_))
theorem impl_moved.mono : ∀ a0 a1 a2 k, LeO (impl_moved.f k a0 a1 a2) (impl_moved.f (k + 1) a0 a1 a2) := by
 intro a0 a1 a2 k
 have ih0 := impl_moved.mono_l k
 unfold impl_moved.f
 with_reducible (repeat' first | exact ih0 _ _ _ _ _ _ | exact LeO.refl _ | exact LeO.none _ | refine LeO.ite ?_ ?_ | refine LeO.bind ?_ (fun _ => ?_))
set_option maxHeartbeats 8000000 in
set_option maxRecDepth 100000 in
theorem impl_moved.calls (k : Nat) (A0 : Option Addr) (c0 : Nat) (l0 : List (S60)) (a1 : Int) (a2 : Int) (r : List (S60)) (w : World) (hr0 : Kd.C k60 w A0 l0.length l0) (hc0 : l0.length ≤ c0) (h : impl_moved.f k l0 a1 a2 = some r) :
  Calls Tryz.prog 88 #[.slice A0 l0.length c0, .int .i64 a1, .int .i64 a2] w fun e w' => ∃ v0_ : Value, e = .returned (v0_) ∧ Kd.R k60 60 w' w.heap.size (fun _ => True) v0_ r ∧ Below w.heap.size w w' := by
 have hu60 := Tryz.underlying60
 have HR0 := Aside0.mk hr0
 have HC0 := Aside0.mk hc0
 clear hr0 hc0
 have HB := a0_ (Below.refl w.heap.size w)
 have H := h
 clear h
 unfold impl_moved.f at H
 by_cases c4 : 0 ≤ (l0.length : Int)
 ·rw [if_pos c4] at H
  have c4b0 := eq_true c4
  have c4b1 : decide (0 ≤ (l0.length : Int)) = true := decide_eq_true c4
  clear c4
  by_cases c5 : ((l0.length : Int) : Int).toNat ≤ 17592186044416
  ·rw [if_pos c5] at H
   have c5b0 := eq_true c5
   have c5b1 : decide (((l0.length : Int) : Int).toNat ≤ 17592186044416) = true := decide_eq_true c5
   clear c5
   obtain ⟨y425, hy425⟩ : ∃ y_ : List (S60), y_ = (([] : List (S60))) := ⟨_, rfl⟩
   replace H : (impl_moved.l0 k a1 a2 y425 l0 (l0.length : Int) 0) = some r := hh_ hy425 H
   have Ny425 := Aside0.mk hy425
   clear hy425
   have H' := Aside0.mk H
   clear H
   go_enter Tryz.func88, Tryz.ntmps88
   go_wp2_with (first | ((with_reducible refine gate_dst (N := 12) rfl ?_); refine Kd.R_make0 k60 _ 60 rfl (N := 12) rfl 24 _ _ rfl (l0.length : Int) rfl rfl Tryz.underlying24 (.agg #[(.int .i64 0), (.int .i64 0)]) 16 info60 rfl (by decide) (ok := fun _ => True) trivial (od_) (Nat.le_trans (Nat.mul_le_mul_right _ (od_ : (l0.length : Int).toNat ≤ 17592186044416)) (by omega)) (Below.refl _ _) (Nat.le_refl _) ?_; intro v426 w6 ho7 hb hg_ hnew_; clear hg_ hnew_; (first | rw [← Ny425.out] at ho7 | (simp only [Int.reduceToNat] at ho7; rw [← Ny425.out] at ho7)); have HO427 := a0_ (Kd.R_lower ho7 (below_size (bl0_))); replace HB := a0_ (below_step (bl0_) hb); clear hb ho7))
   go_loopg [7, 15] k (fun kq v7 v15 w' => ∃ (x7_1 : List (S60)) (x15_1 : Int), v15 = .int .i64 x15_1 ∧ Aside0 (impl_moved.l0 kq a1 a2 x7_1 l0 (l0.length : Int) x15_1 = some r) ∧ Aside0 (kq ≤ k) ∧ Aside0 (Kd.R k60 60 w' w.heap.size (fun _ => True) v7 x7_1) ∧ Aside0 (Below w.heap.size w w'))
   case atStart => exact ⟨(y425), (0), rs_, H', ⟨Nat.le_refl _⟩, ⟨ra_ HO427.out⟩, ⟨bl0_⟩⟩
   case round =>
    clear H'
    try clear p2
    try clear c4
    try clear c4b0
    try clear c4b1
    try clear c5
    try clear c5b0
    try clear c5b1
    obtain ⟨x7_1, x15_1, rfl, HA, HK1, HO_7, HB⟩ := hrel
    cases gk with
    | zero => exact absurd HA.out (by simp [impl_moved.l0])
    | succ k1 =>
     have H := HA.out
     clear HA
     simp only [impl_moved.l0] at H
     by_cases c8 : x15_1 < (l0.length : Int)
     ·rw [if_pos c8] at H
      have c8b0 : decide (x15_1 < (l0.length : Int)) = true := decide_eq_true c8
      clear c8
      by_cases c9 : 0 ≤ x15_1
      ·rw [if_pos c9] at H
       have c9b0 : decide (0 ≤ x15_1) = true := decide_eq_true c9
       clear c9
       by_cases c10 : x15_1 < (l0.length : Int)
       ·rw [if_pos c10] at H
        have c10b0 : decide (x15_1 < (l0.length : Int)) = true := decide_eq_true c10
        clear c10
        by_cases c11 : x7_1.length < 8796093022208
        ·rw [if_pos c11] at H
         have LMc11 := Aside0.mk c11
         clear c11
         obtain ⟨y430, hy430⟩ : ∃ y_ : List (S60), y_ = (x7_1 ++ [(⟨wrap64 (((rd_T60 l0 x15_1).f0) + a1), wrap64 (((rd_T60 l0 x15_1).f1) + a2)⟩ : S60)]) := ⟨_, rfl⟩
         replace H : (impl_moved.l0 k1 a1 a2 y430 l0 (l0.length : Int) (wrap64 (x15_1 + 1))) = some r := hh_ hy430 H
         have Ny430 := Aside0.mk hy430
         clear hy430
         have H' := Aside0.mk H
         clear H
         have p428 : 0 ≤ (x15_1 : Int) := od_
         have q428 : x15_1 < (l0.length : Int) := od_
         obtain ⟨ad428, e428, hx428_0, hx428_1⟩ := at_T60 HR0.out x15_1 p428 q428
         cases e428
         replace hx428_0 := (HB.out.cell (World.block_lt_of_cell? w _ hx428_0)).trans hx428_0
         replace hx428_1 := (HB.out.cell (World.block_lt_of_cell? w _ hx428_1)).trans hx428_1
         replace p428 := eq_true p428
         replace q428 := eq_true q428
         go_wp2_with (first | ((with_reducible refine gate_dst (N := 9) rfl ?_); refine bx_ (N := 9) (cs := #[.int .i64 0, .int .i64 0]) (t := 60) ?_; intro gb429 hg w12 hbox hb; replace HO_7 := a0_ (Kd.R_below (Kd.R_elderB (ra_ HO_7.out) gb429 (Nat.le_of_eq hg.symm)) hb); have BK429 := a0_ (hbox); have GW429 := a0_ ((sz_ hg (bl0_) : w.heap.size ≤ gb429)); have GE429 := a0_ ((sz_ hg (bl0_) : w.heap.size ≤ gb429)); replace HB := a0_ (below_step (bl0_) hb); clear hb hbox hg; obtain ⟨hcz13_0, hcz13_1, hfz13_0, hfz13_1⟩ := bc2_ BK429.out) | ((with_reducible refine gate_builtin (b := .append) (xs := #[.tmp 19, .tmp 29]) rfl ?_); at_builtin; refine Kd.R_append k60 (w0 := w) w.heap.size rfl (.tmp 19) (.tmp 29) 24 60 (.agg #[(.int .i64 0), (.int .i64 0)]) 16 rfl Tryz.underlying24 info60 rfl (by decide) (by omega) u7 x7_1 (⟨wrap64 (((rd_T60 l0 x15_1).f0) + a1), wrap64 (((rd_T60 l0 x15_1).f1) + a2)⟩ : S60) [.int .i64 (wrap64 (((rd_T60 l0 x15_1).f0) + a1)), .int .i64 (wrap64 (((rd_T60 l0 x15_1).f1) + a2))] (fun k_ => k_ ≠ gb429) (fun _ => False) rfl (by first | (go_simp; done) | (go_simp; rfl)) ?aP (fun _ hk => hk.elim) ?aF ?aO ?aB ?aS ?aL ?_; (case aP => exact k60_mkM _ _ _ (⟨wrap64 (((rd_T60 l0 x15_1).f0) + a1), wrap64 (((rd_T60 l0 x15_1).f1) + a2)⟩ : S60)); (case aB => exact (bl1_ GE429.out)); (case aF => exact (fun k_ hk => Kd.freshB (g := gb429) (o := .cells #[.int .i64 ((rd_T60 l0 x15_1).f0), .int .i64 ((rd_T60 l0 x15_1).f1)] 60 (0, 0)) (by (with_reducible repeat (first | refine blk_drewN ?_ _ | refine blk_drew ?_ | refine blk_alloc ?_ _)); refine blk_put (cs := #[.int .i64 ((rd_T60 l0 x15_1).f0), .int .i64 0]) ?_ 1 _ rfl; (with_reducible repeat (first | refine blk_drewN ?_ _ | refine blk_drew ?_ | refine blk_alloc ?_ _)); refine blk_put (cs := #[.int .i64 0, .int .i64 0]) ?_ 0 _ rfl; (with_reducible repeat (first | refine blk_drewN ?_ _ | refine blk_drew ?_ | refine blk_alloc ?_ _)); exact BK429.out) k_ hk)); (case aO => exact (by (with_reducible repeat (first | apply Kd.R_alloc | apply Kd.R_drewN | apply Kd.R_drew)); exact Kd.R_mono (Kd.R_far (p := ⟨gb429, 1, none⟩) (Kd.R_far (p := ⟨gb429, 0, none⟩) (Kd.R_mono HO_7.out (fun k_ hk => (⟨hk, hk.2⟩ : _ ∧ k_ ≠ gb429))) (fun _ hk => hk.2) (.int .i64 ((rd_T60 l0 x15_1).f0))) (fun _ hk => hk.2) (.int .i64 ((rd_T60 l0 x15_1).f1))) (fun _ hk => hk.1.2))); (case aS => exact (below_size (bl1_ GE429.out))); (case aL => have := LMc11.out; omega); intro v431 w14 ho hb hg hat; rw [← Ny430.out] at ho; replace BK429 := a0_ (blk_grown (g := gb429) (o := .cells #[.int .i64 ((rd_T60 l0 x15_1).f0), .int .i64 ((rd_T60 l0 x15_1).f1)] 60 (0, 0)) (by (with_reducible repeat (first | refine blk_drewN ?_ _ | refine blk_drew ?_ | refine blk_alloc ?_ _)); refine blk_put (cs := #[.int .i64 ((rd_T60 l0 x15_1).f0), .int .i64 0]) ?_ 1 _ rfl; (with_reducible repeat (first | refine blk_drewN ?_ _ | refine blk_drew ?_ | refine blk_alloc ?_ _)); refine blk_put (cs := #[.int .i64 0, .int .i64 0]) ?_ 0 _ rfl; (with_reducible repeat (first | refine blk_drewN ?_ _ | refine blk_drew ?_ | refine blk_alloc ?_ _)); exact BK429.out) hg (Kd.R_away HO_7.out (fun _ hk => hk.2))); replace HB := a0_ (hb); have HO432 := a0_ (ho); clear HO_7; clear ho hb hg hat))
         go_roundg k1
         case measure => have := HK1.out; omega
         case rel => exact ⟨(y430), (wrap64 (x15_1 + 1)), rs_, H', ⟨by have := HK1.out; omega⟩, ⟨by (with_reducible repeat (first | apply Kd.R_alloc | apply Kd.R_drewN | apply Kd.R_drew)); exact Kd.R_mono HO432.out (fun _ hk => trivial)⟩, ⟨bl1_ GE429.out⟩⟩
        ·rw [if_neg c11] at H
         exact absurd H (by simp)
       ·rw [if_neg c10] at H
        exact absurd H (by simp)
      ·rw [if_neg c9] at H
       exact absurd H (by simp)
     ·rw [if_neg c8] at H
      have c8b0 : decide (x15_1 < (l0.length : Int)) = false := decide_eq_false c8
      clear c8
      obtain rfl := Option.some.inj H
      go_wp2
      go_ret
      exact ⟨_, er_, ra_ HO_7.out, bl0_⟩
  ·rw [if_neg c5] at H
   exact absurd H (by simp)
 ·rw [if_neg c4] at H
  exact absurd H (by simp)

end Go.Proofs.YtaaodakmelihaaaGreat.PFnPieces
