/- Over the kit's printer by a driver of mine (hprint.py), with parts by hand: functions of the program as Lean functions, and that each call comes to exactly these answers. -/
import Derived.Test.YtmdjkmfocgelnaaGreatDoorPFnAllNetsx0
import Derived.Test.YtmdjkmfocgelnaaGreatDoorPFnAllNetsx16
namespace Go.Proofs.YtmdjkmfocgelnaaGreatDoor.PFnAllNets
open Go.RowKit Go.Proofs.YtmdjkmfocgelnaaGreatDoorW.PrintWords Go.Proofs.YtmdjkmfocgelnaaGreatDoorW.PrintLast Go.Proofs.YtmdjkmfocgelnaaGreatDoorW.PrintMore
attribute [local go_sem] max2_int min2_int max_two min_two max_three min_three max_four min_four   
set_option linter.unusedVariables false
set_option linter.unusedSimpArgs false
def leS (a b : List S56) : Bool := !(decide (cmpS b a < 0))
def sortS (L : List (List S56)) : List (List S56) := L.mergeSort leS
def dedFrom (p : List S56) : List (List S56) → List (List S56)
 | [] => []
 | y :: r => if cmpS y p = 0 then dedFrom y r else y :: dedFrom y r
def dedS : List (List S56) → List (List S56)
 | [] => []
 | x :: r => x :: dedFrom x r
def tidyL (L : List (List S56)) : List (List S56) := dedS (sortS L)
theorem eqS_loop (a b : List S56) (h : a.length = b.length) (hm : a.length ≤ 9223372036854775807) (d : Nat) : ∀ i : Nat, i + d = a.length → slices_Equal_impl_Cell_impl_Cell.l0 (d + 1) a b (a.length : Int) i = some (decide (cmpGo (a.drop i) (b.drop i) = 0)) := by
 induction d with
 | zero =>
  intro i hi
  rw [slices_Equal_impl_Cell_impl_Cell.l0, if_neg (by omega), List.drop_of_length_le (by omega)]
  rfl
 | succ d ih =>
  intro i hi
  have hb : i < b.length := by omega
  have e0 : rd_T56 a (i : Int) = a[i] := by show a.getD i _ = _; rw [List.getD_eq_getElem?_getD, List.getElem?_eq_getElem (by omega), Option.getD_some]
  have e1 : rd_T56 b (i : Int) = b[i] := by show b.getD i _ = _; rw [List.getD_eq_getElem?_getD, List.getElem?_eq_getElem hb, Option.getD_some]
  rw [slices_Equal_impl_Cell_impl_Cell.l0, if_pos (by omega), if_pos (by omega), if_pos (by omega), if_pos (by omega), e0, e1, List.drop_eq_getElem_cons (by omega : i < a.length), List.drop_eq_getElem_cons hb, cmpGo]
  by_cases e : cfC a[i] b[i] = 0
  ·have e2 := (cfC_zero _ _).1 e
   rw [if_pos e, e2, if_neg (by simp), show wrap64 ((i : Int) + 1) = ((i + 1 : Nat) : Int) by unfold wrap64; omega]
   exact ih (i + 1) (by omega)
  ·rw [if_neg e, if_pos ?_, decide_eq_false e]
   generalize a[i] = p at e
   generalize b[i] = q at e
   obtain ⟨p0, p1⟩ := p
   obtain ⟨q0, q1⟩ := q
   by_cases h0 : p0 = q0
   ·have h1 : p1 ≠ q1 := fun h => e ((cfC_zero _ _).2 (by rw [h0, h]))
    simp [h0, h1]
   ·simp [h0]
theorem eqS_some (a b : List S56) (hm : a.length ≤ 9223372036854775807) : ∃ k, impl_equalShapes.f k a b = some (decide (cmpS a b = 0)) := by
 unfold impl_equalShapes.f slices_Equal_impl_Cell_impl_Cell.f cmpS
 by_cases h : a.length = b.length
 ·refine ⟨a.length + 1, ?_⟩
  have e := eqS_loop a b h hm a.length 0 (by omega)
  rw [if_pos (by omega), if_pos h, show ((0 : Nat) : Int) = 0 from rfl] at *
  rw [e]
  rfl
 ·refine ⟨0, ?_⟩
  rw [if_neg (by omega), if_neg h]
  by_cases h2 : a.length < b.length
  ·rw [if_pos h2]; rfl
  ·rw [if_neg h2]; rfl
structure ButB (g : Nat) (w w' : World) : Prop where
 os : w'.os = w.os
 tape : w'.tape = w.tape
 output : w'.output = w.output
 size : w.heap.size ≤ w'.heap.size
 block : ∀ k, k < w.heap.size → k ≠ g → w'.heap[k]? = w.heap[k]?
theorem ButB.below {g : Nat} {w w1 w2 : World} (h : ButB g w w1) (k : Below w1.heap.size w1 w2) : ButB g w w2 :=
 ⟨k.os.trans h.os, k.tape.trans h.tape, k.output.trans h.output, Nat.le_trans h.size k.size, fun i hi hn => (k.block i (Nat.lt_of_lt_of_le hi h.size)).trans (h.block i hi hn)⟩
theorem ButB.refl (g : Nat) (w : World) : ButB g w w := ⟨rfl, rfl, rfl, Nat.le_refl _, fun _ _ _ => rfl⟩
theorem ButB.set {g : Nat} {w w1 : World} (h : ButB g w w1) (i : Nat) (v : Value) : ButB g w (w1.setCell ⟨g, i, none⟩ v) :=
 ⟨h.os, h.tape, h.output, by have := h.size; simpa [World.setCell] using this, fun k hk hn => (Below.heap_setCell w1 ⟨g, i, none⟩ v k hn).trans (h.block k hk hn)⟩
theorem ButB.from_ {g base : Nat} {w0 w w' : World} (h : ButB g w w') (hb : Below base w0 w) (h0 : base ≤ w0.heap.size) (hg : base ≤ g) : Below base w0 w' :=
 ⟨h.os.trans hb.os, h.tape.trans hb.tape, h.output.trans hb.output, Nat.le_trans hb.size h.size, fun k hk => (h.block k (by have := hb.size; omega) (by omega)).trans (hb.block k hk)⟩
def keepP (p : List S56) : List (Value × List S56) → List (Value × List S56)
 | [] => []
 | y :: r => if cmpS y.2 p = 0 then keepP y.2 r else y :: keepP y.2 r
def keepS : List (Value × List S56) → List (Value × List S56)
 | [] => []
 | x :: r => x :: keepP x.2 r
theorem keepP_snd : ∀ (r : List (Value × List S56)) (p : List S56), (keepP p r).map (·.2) = dedFrom p (r.map (·.2))
 | [], _ => rfl
 | y :: r, p => by
  rw [keepP, List.map_cons, dedFrom]
  by_cases e : cmpS y.2 p = 0
  ·rw [if_pos e, if_pos e, keepP_snd r]
  ·rw [if_neg e, if_neg e, List.map_cons, keepP_snd r]
theorem keepS_snd (L : List (Value × List S56)) : (keepS L).map (·.2) = dedS (L.map (·.2)) := by
 cases L with
 | nil => rfl
 | cons x r => rw [keepS, List.map_cons, List.map_cons, dedS, keepP_snd]
theorem keepP_sub : ∀ (r : List (Value × List S56)) (p : List S56), ∀ q ∈ keepP p r, q ∈ r
 | [], _ => fun q hq => hq
 | y :: r, p => fun q hq => by
  rw [keepP] at hq
  by_cases e : cmpS y.2 p = 0
  ·rw [if_pos e] at hq; exact List.mem_cons_of_mem _ (keepP_sub r _ q hq)
  ·rw [if_neg e] at hq
   rcases List.mem_cons.1 hq with rfl | hq
   ·simp
   ·exact List.mem_cons_of_mem _ (keepP_sub r _ q hq)
theorem keepS_sub (L : List (Value × List S56)) : ∀ q ∈ keepS L, q ∈ L := by
 cases L with
 | nil => exact fun q hq => hq
 | cons x r =>
  intro q hq
  rcases List.mem_cons.1 hq with rfl | hq
  ·simp
  ·exact List.mem_cons_of_mem _ (keepP_sub r _ q hq)
theorem keepP_snoc : ∀ (r : List (Value × List S56)) (p : List S56) (y : Value × List S56), keepP p (r ++ [y]) = keepP p r ++ (if cmpS y.2 (((r.map (·.2)).getLast?).getD p) = 0 then [] else [y])
 | [], p, y => by
  rw [List.nil_append, keepP, keepP, keepP, List.nil_append]
  rfl
 | x :: r, p, y => by
  rw [List.cons_append, keepP, keepP, keepP_snoc r x.2 y]
  have e : (((x :: r).map (·.2)).getLast?).getD p = ((r.map (·.2)).getLast?).getD x.2 := by
   cases r with
   | nil => rfl
   | cons z r => rw [List.map_cons, List.map_cons, List.getLast?_cons_cons]; simp [List.getLast?_cons]
  rw [e]
  by_cases c : cmpS x.2 p = 0
  ·rw [if_pos c, if_pos c]
  ·rw [if_neg c, if_neg c, List.cons_append]
theorem keepS_take (L : List (Value × List S56)) (i : Nat) (h1 : 1 ≤ i) (hi : i < L.length) : keepS (L.take (i + 1)) = keepS (L.take i) ++ (if cmpS L[i].2 (L[i - 1]'(by omega)).2 = 0 then [] else [L[i]]) := by
 cases L with
 | nil => simp at hi
 | cons x r =>
  obtain ⟨j, rfl⟩ : ∃ j, i = j + 1 := ⟨i - 1, by omega⟩
  have hj : j < r.length := by simpa using hi
  rw [List.take_succ_cons, List.take_succ_cons, keepS, keepS, List.take_succ_eq_append_getElem hj, keepP_snoc, List.cons_append]
  have e : ((((r.take j).map (·.2)).getLast?).getD x.2) = ((x :: r)[j + 1 - 1]'(by simp; omega)).2 := by
   cases j with
   | zero => rfl
   | succ j =>
    rw [List.take_succ_eq_append_getElem (by omega : j < r.length), List.map_append, List.map_cons, List.map_nil, List.getLast?_append]
    rfl
  rw [e]
  rfl
theorem leS_sorted (L : List (List S56)) : (sortS L).Pairwise (fun a b => cmpS a b ≤ 0) := by
 refine (List.pairwise_mergeSort (le := leS) (fun a b c h1 h2 => ?_) (fun a b => ?_) L).imp (fun {a b} h => ?_)
 ·simp only [leS, Bool.not_eq_true', decide_eq_false_iff_not] at h1 h2 ⊢
  have e1 := cmpS_neg a b
  have e2 := cmpS_neg b c
  have e3 := cmpS_neg a c
  have := cmpS_le_trans a b c (by omega) (by omega)
  omega
 ·simp only [leS, Bool.or_eq_true, Bool.not_eq_true', decide_eq_false_iff_not]
  have e1 := cmpS_neg a b
  omega
 ·simp only [leS, Bool.not_eq_true', decide_eq_false_iff_not] at h
  have e1 := cmpS_neg a b
  omega
theorem sortS_of {L L' : List (List S56)} (hp : L'.Perm L) (h : L'.Pairwise (fun a b => cmpS a b ≤ 0)) : L' = sortS L :=
 List.Perm.eq_of_pairwise (fun a b _ _ h1 h2 => by have := cmpS_neg a b; exact (cmpS_zero a b).1 (by omega)) h (leS_sorted L) (hp.trans (List.mergeSort_perm L leS).symm)
structure ElemIn (w : World) (g : Nat) where
 v : Value
 x : List S56
 h : ∃ A c, v = .slice A x.length c ∧ x.length ≤ c ∧ ∀ w' : World, (∀ k, k < w.heap.size → k ≠ g → w'.heap[k]? = w.heap[k]?) → Kd.C k56 w' A x.length x
instance (w : World) (g : Nat) : Inhabited (ElemIn w g) := ⟨⟨.slice none 0 0, [], none, 0, rfl, Nat.le_refl _, fun w' _ => Kd.C_nil _ w'⟩⟩
theorem elem_of {base : Nat} {ok : Nat → Prop} {w : World} {g : Nat} {v : Value} {x : List S56} (h : Kd.R k56 56 w base (fun k => ok k ∧ k ≠ g) v x) :
  ∃ A c, v = .slice A x.length c ∧ x.length ≤ c ∧ ∀ w' : World, (∀ k, k < w.heap.size → k ≠ g → w'.heap[k]? = w.heap[k]?) → Kd.C k56 w' A x.length x := by
 obtain ⟨A, c, rfl⟩ := Kd.R_slice h
 refine ⟨A, c, rfl, (Kd.R_reads' h).2.1, fun w' hw => ?_⟩
 exact (Kd.R_reads' (Kd.R_step h (fun k hk hl => hw k hl hk.2))).2.2
theorem sortW_heap {α : Type} [Inhabited α] (enc : α → Value) (w : World) (g m : Nat) (d : Array α) (os : Array Obj) (hg : g < w.heap.size) : ∀ k, k < w.heap.size → k ≠ g → (Go.Proofs.sortWorld enc w g 0 m d os).heap[k]? = w.heap[k]? := by
 intro k hk hn
 show ((w.heap.modify g _) ++ os)[k]? = _
 rw [Array.getElem?_append_left (by simpa using hk), Array.getElem?_modify, if_neg (by omega)]
set_option maxHeartbeats 2000000 in
theorem sortShapes_calls (w : World) (base : Nat) (ok : Nat → Prop) (g cap : Nat) (cs : List (Value × List S56)) (tail : List Value) (hR : RoR k56 56 29 base ok w g cs tail) (hl : cs.length < 4611686018427387904) :
  Calls Tryz.prog 96 #[.slice (some ⟨g, 0, none⟩) cs.length cap, .func (.func 74) #[] #[]] w fun e w' => e = .returned (.tuple #[]) ∧ ∃ cs', cs'.length = cs.length ∧ cs'.map (·.2) = sortS (cs.map (·.2)) ∧ RoR k56 56 29 base ok w' g cs' tail ∧ ButB g w w' ∧ cs'.Perm cs := by
 have hg : g < w.heap.size := blk_lt hR.blk
 obtain ⟨es, hes⟩ : ∃ es : List (ElemIn w g), es.map (fun e => (e.v, e.x)) = cs := by
  refine ⟨cs.attach.map (fun p => (⟨p.1.1, p.1.2, elem_of (hR.el p.1 p.2)⟩ : ElemIn w g)), ?_⟩
  rw [List.map_map]
  exact List.attach_map_subtype_val cs
 have hel : es.length = cs.length := by rw [← hes, List.length_map]
 have eg : ∀ args w, (callFunc 74 args).run Tryz.prog w = .ok (.enter 74 args) w := enters_of Tryz.func74 kr_ rfl
 have hO : Sort.SWO (ltOf fun x y : ElemIn w g => cmpS x.x y.x) := by
  refine ⟨fun x => ?_, fun x y z h1 h2 => ?_, fun x y z h1 h2 => ?_⟩
  ·simp only [ltOf, decide_eq_false_iff_not]
   rw [cmpS_self]
   omega
  ·simp only [ltOf, decide_eq_true_eq] at *
   exact cmpS_trans _ _ _ h1 h2
  ·simp only [ltOf, decide_eq_false_iff_not] at *
   have e1 := cmpS_neg x.x y.x
   have e2 := cmpS_neg y.x z.x
   have e3 := cmpS_neg x.x z.x
   have := cmpS_le_trans z.x y.x x.x (by omega) (by omega)
   omega
 have hcmp : CmpLays1 Tryz.prog 74 #[] (fun x : ElemIn w g => x.v) (fun x y => cmpS x.x y.x) g 0 es.toArray.size w := by
  intro m os dk _ x y
  obtain ⟨A0, c0, e0, l0, r0⟩ := x.h
  obtain ⟨A1, c1, e1, l1, r1⟩ := y.h
  have h := compareShapes_grew A0 c0 x.x A1 c1 y.x (cmpS x.x y.x) (Go.Proofs.sortWorld (fun x : ElemIn w g => x.v) w g 0 m dk os) (r0 _ (sortW_heap _ w g m dk os hg)) l0 (r1 _ (sortW_heap _ w g m dk os hg)) l1 rfl
  rw [← e0, ← e1] at h
  exact h
 have hH : Sort.Holds (fun x : ElemIn w g => x.v) w g 0 es.toArray := fun j hj => by
  have hj' : j < es.length := by simpa using hj
  refine ⟨?_, blk_frozen hR.blk _⟩
  rw [Nat.zero_add, blk_cell hR.blk, List.getElem?_toArray, List.getElem?_append_left (by simp; omega), List.getElem?_map, ← hes, List.getElem?_map, List.getElem?_eq_getElem hj', getElem!_pos es.toArray j hj]
  rfl
 have h := Any.slices_SortFunc Tryz.sortS (fun x : ElemIn w g => x.v) (fun x => by obtain ⟨A, c, e, _⟩ := x.h; show x.v.oneCell' = true; rw [e]; rfl) (fun x y => cmpS x.x y.x) hO 74 #[] g 0 cap es.toArray w eg hcmp hH hg (by simpa [hel] using hl)
 change Calls Tryz.prog 96 _ _ _ at h
 simp only [List.size_toArray, hel] at h
 refine h.mono ?_
 rintro e w' ⟨rfl, d', n, os, hP, hS, rfl⟩
 obtain ⟨hsz, _, hperm⟩ := hP
 have hsz' : d'.size = cs.length := by rw [hsz, List.size_toArray, hel]
 have e1 : d'.extract 0 cs.length = d' := by rw [← hsz']; exact Array.extract_size
 have e2 : es.toArray.extract 0 cs.length = es.toArray := by rw [← hel, ← List.size_toArray]; exact Array.extract_size
 rw [e1, e2] at hperm
 replace hperm : d'.toList.Perm es := hperm
 have hlen : (d'.toList.map (fun e => (e.v, e.x))).length = cs.length := by rw [List.length_map, Array.length_toList, hsz']
 have hpc : (d'.toList.map (fun e => (e.v, e.x))).Perm cs := by rw [← hes]; exact hperm.map _
 refine ⟨rfl, d'.toList.map (fun e => (e.v, e.x)), hlen, sortS_of (hpc.map _) ?_, hR.step (fun p hp => (hpc.mem_iff).1 hp) ?_ (sortW_heap _ w g n d' os hg), ⟨rfl, rfl, rfl, ?_, sortW_heap _ w g n d' os hg⟩, hpc⟩
 ·rw [List.map_map, List.pairwise_map, List.pairwise_iff_getElem]
  intro i j hi hj hij
  have hj' : j < d'.size := by simpa using hj
  have h3 := hS i j (Nat.zero_le _) hij (by omega)
  rw [getElem!_pos d' i (by omega), getElem!_pos d' j hj'] at h3
  simp only [ltOf, decide_eq_false_iff_not] at h3
  have := cmpS_neg d'[i].x d'[j].x
  simp only [Function.comp_apply, Array.getElem_toList]
  omega
 ·show ((w.heap.modify g _) ++ os)[g]? = _
  rw [Array.getElem?_append_left (by simpa using hg), Array.getElem?_modify, if_pos rfl, hR.blk]
  simp only [Option.map_some, Sort.onCells]
  congr 2
  apply Array.ext_getElem?
  intro j
  simp only [Sort.putCells, Array.getElem?_mapIdx, List.getElem?_toArray]
  by_cases hj : j < cs.length
  ·rw [List.getElem?_append_left (by simpa using hj), List.getElem?_append_left (by rw [List.length_map, hlen]; exact hj), List.getElem?_map, List.getElem?_eq_getElem hj, List.getElem?_map, List.getElem?_map, Array.getElem?_toList, Array.getElem?_eq_getElem (by omega)]
   simp only [Option.map_some]
   rw [if_pos ⟨Nat.zero_le _, by omega⟩, Nat.sub_zero, getElem!_pos d' j (by omega)]
  ·rw [List.getElem?_append_right (by simp; omega), List.getElem?_append_right (by rw [List.length_map, hlen]; omega), List.length_map, List.length_map, hlen]
   cases tail[j - cs.length]? with
   | none => rfl
   | some u => simp only [Option.map_some]; rw [if_neg (by omega)]
 ·show w.heap.size ≤ ((w.heap.modify g _) ++ os).size
  simp
theorem setCells_blk (g t : Nat) (fz : Nat × Nat) : ∀ (vs pre mid post : List Value) (w : World), mid.length = vs.length → w.heap[g]? = some (.cells (pre ++ (mid ++ post)).toArray t fz) → (w.setCells g pre.length vs).heap[g]? = some (.cells (pre ++ (vs ++ post)).toArray t fz)
 | [], pre, mid, post, w, hl, h => by
  obtain rfl : mid = [] := List.length_eq_zero_iff.1 hl
  exact h
 | v :: vs, pre, mid, post, w, hl, h => by
  cases mid with
  | nil => simp at hl
  | cons m mid =>
   have h1 : (w.setCell ⟨g, pre.length, none⟩ v).heap[g]? = some (.cells ((pre ++ [v]) ++ (mid ++ post)).toArray t fz) := by
    rw [Sort.setCell_eq]
    show (w.heap.modify g _)[g]? = _
    rw [Array.getElem?_modify, if_pos rfl, h]
    simp only [Option.map_some, Sort.onCells]
    congr 2
    apply Array.toList_inj.1
    rw [Array.toList_setIfInBounds, List.cons_append, List.set_append_right _ _ (Nat.le_refl _), Nat.sub_self, List.set_cons_zero]
    simp
   have := setCells_blk g t fz vs (pre ++ [v]) mid post _ (by simpa using hl) h1
   rw [List.length_append] at this
   simpa [World.setCells] using this
theorem setCells_but (g : Nat) : ∀ (vs : List Value) (o : Nat) (w w0 : World), ButB g w0 w → ButB g w0 (w.setCells g o vs)
 | [], _, _, _, h => h
 | v :: vs, o, w, w0, h => setCells_but g vs (o + 1) _ w0 (h.set o v)
theorem keep_one (cs : List (Value × List S56)) (h : cs.length ≤ 1) : keepS cs = cs := by
 cases cs with
 | nil => rfl
 | cons x r => cases r with
  | nil => rfl
  | cons y r => simp at h
set_option maxHeartbeats 4000000 in
set_option maxRecDepth 100000 in
theorem compactShapes_calls (w : World) (base : Nat) (ok : Nat → Prop) (g cap : Nat) (cs : List (Value × List S56)) (tail : List Value) (hR : RoR k56 56 29 base ok w g cs tail) (hc : cs.length + tail.length = cap) (hm : cap ≤ maxLen) :
  Calls Tryz.prog 97 #[.slice (some ⟨g, 0, none⟩) cs.length cap, .func (.func 98) #[] #[]] w fun e w' => e = .returned (.slice (some ⟨g, 0, none⟩) (keepS cs).length cap) ∧ (∃ tail', (keepS cs).length + tail'.length = cap ∧ RoR k56 56 29 base ok w' g (keepS cs) tail') ∧ ButB g w w' := by
 have HR := Aside0.mk hR
 have HC := a0_ (And.intro hc (show cap ≤ 9223372036854775807 from hm))
 have hel : ∀ j (hj : j < cs.length), ∃ A c, cs[j].1 = .slice A cs[j].2.length c ∧ cs[j].2.length ≤ c ∧ ∀ w' : World, (∀ k, k < w.heap.size → k ≠ g → w'.heap[k]? = w.heap[k]?) → Kd.C k56 w' A cs[j].2.length cs[j].2 := fun j hj => elem_of (hR.el _ (List.getElem_mem hj))
 have HE := Aside0.mk hel
 clear hR hc hm hel
 by_cases h2 : cs.length < 2
 ·have d0 : decide ((cs.length : Int) < 2) = true := decide_eq_true (by omega)
  have d1 : decide (cs.length < 2) = true := decide_eq_true h2
  have HK := a0_ (keep_one cs (by omega))
  clear h2
  go_enter Tryz.func97, Tryz.ntmps97
  go_wp2
  go_ret
  rw [HK.out]
  exact ⟨rfl, ⟨tail, HC.out.1, HR.out⟩, ButB.refl _ _⟩
 ·have d0 : decide ((cs.length : Int) < 2) = false := decide_eq_false (by omega)
  have d1 : decide (cs.length < 2) = false := decide_eq_false h2
  have H2 := Aside0.mk h2
  clear h2
  go_enter Tryz.func97, Tryz.ntmps97
  go_wp2
  clear d0 d1
  go_loopg [5] cs.length (fun kq v5 w' => ∃ k : Nat, v5 = .int .i64 k ∧ Aside0 (1 ≤ k ∧ k ≤ cs.length ∧ cs.length ≤ kq + k) ∧ Aside0 (keepS (cs.take k) = cs.take k) ∧ Aside0 (Below w.heap.size w w'))
  case atStart => exact ⟨1, rfl, ⟨by have := H2.out; omega⟩, ⟨keep_one _ (by simp [List.length_take]; omega)⟩, ⟨Below.refl _ _⟩⟩
  case round =>
   obtain ⟨k, rfl, HK, HT, HB⟩ := hrel
   by_cases hk : k < cs.length
   ·have hk1 := HK.out.1
    have d0 : decide ((k : Int) < (cs.length : Int)) = true := decide_eq_true (by omega)
    have d1 : decide (k < cs.length) = true := decide_eq_true hk
    have q0 : (0 ≤ (k : Int)) = True := eq_true (by omega)
    have q1 : ((k : Int) < (cs.length : Int)) = True := eq_true (by omega)
    have q2 : (k < cs.length) = True := eq_true hk
    have hw1 : wrap64 ((k : Int) - 1) = ((k - 1 : Nat) : Int) := by have := HC.out; unfold wrap64; omega
    have hw2 : wrap64 ((k : Int) + 1) = ((k + 1 : Nat) : Int) := by have := HC.out; unfold wrap64; omega
    have q3 : (0 ≤ ((k - 1 : Nat) : Int)) = True := eq_true (by omega)
    have q4 : (((k - 1 : Nat) : Int) < (cs.length : Int)) = True := eq_true (by omega)
    have HW := a0_ (And.intro hw1 hw2)
    have hw3 : IntKind.i64.wrap ((k : Int) - 1) = ((k - 1 : Nat) : Int) := (i64_w _).trans hw1
    have hbk := blk_below HR.out.blk HB.out
    have hcell : ∀ j (hj : j < cs.length), wr.cell? ⟨g, j, none⟩ = some cs[j].1 := fun j hj => by
     rw [blk_cell hbk, List.getElem?_toArray, List.getElem?_append_left (by simpa using hj), List.getElem?_map, List.getElem?_eq_getElem hj]
     rfl
    have hk0 : k - 1 < cs.length := by omega
    have q5 : (k - 1 < cs.length) = True := eq_true hk0
    have q6 : decide (k - 1 < cs.length) = true := decide_eq_true hk0
    have q7 : decide (0 ≤ ((k - 1 : Nat) : Int)) = true := decide_eq_true (by omega)
    obtain ⟨P, hP⟩ : ∃ P, P = cs[k] := ⟨_, rfl⟩
    obtain ⟨O, hO⟩ : ∃ O, O = cs[k - 1]'hk0 := ⟨_, rfl⟩
    have x0 := hcell k hk
    have x1 := hcell (k - 1) hk0
    obtain ⟨A0, c0, e0, l0, r0⟩ := HE.out k hk
    obtain ⟨A1, c1, e1, l1, r1⟩ := HE.out (k - 1) hk0
    have hkt := keepS_take cs k hk1 hk
    rw [← hP] at x0 e0 l0 r0 hkt
    rw [← hO] at x1 e1 l1 r1 hkt
    rw [e0] at x0
    rw [e1] at x1
    obtain ⟨kf, hkf⟩ := eqS_some P.2 O.2 (r0 w (fun _ _ _ => rfl)).2.1
    have hcall : ∀ W : World, Below wr.heap.size wr W → Calls Tryz.prog 98 #[.slice A0 P.2.length c0, .slice A1 O.2.length c1] W fun e w' => e = .returned (.bool (decide (cmpS P.2 O.2 = 0))) ∧ Drawn0 W w' := fun W hb => by
     have hall : ∀ q, q < w.heap.size → q ≠ g → W.heap[q]? = w.heap[q]? := fun q hq _ => (hb.block q (Nat.lt_of_lt_of_le hq HB.out.size)).trans (HB.out.block q hq)
     exact impl_equalShapes.calls kf A0 c0 _ A1 c1 _ _ W (r0 W hall) l0 (r1 W hall) l1 hkf
    have HPO := a0_ (And.intro hP hO)
    by_cases hz : cmpS P.2 O.2 = 0
    ·rw [if_pos hz, List.append_nil, HT.out] at hkt
     rw [decide_eq_true hz] at hcall
     have HCALL := Aside0.mk hcall
     have HKT := Aside0.mk hkt
     have HZ := Aside0.mk hz
     clear hkt hz hcall r0 r1 hkf hcell hbk e0 e1 l0 l1 hP hO
     generalize P.2.length = np at x0 HCALL
     generalize O.2.length = no at x1 HCALL
     go_wp2
     go_region_held3 (fun w' => w'.cell? ⟨g, k, none⟩ = some (.slice A0 np c0) ∧ w'.cell? ⟨g, k - 1, none⟩ = some (.slice A1 no c1)) (go_keep) ((go_at_call 98; (refine (HCALL.out _ ?_).mono ?_; exact below_drew1 (Below.refl _ _); rintro e w2 ⟨rfl, ⟨n, rfl⟩⟩)))
     clear x0 x1 HCALL q0 q1 q2 q3 q4 q5 q6 q7 hw1 hw2 hw3 d0 d1
     have hkn : k ≤ cs.length := by omega
     have g0 : (0 : Int) ≤ (k : Int) := by omega
     have g1 : (k : Int) ≤ (cs.length : Int) := by omega
     have g2 : cs.length ≤ cap := by have := HC.out; omega
     have g3 : k ≤ cap := by have := HC.out; omega
     have g4 : ¬ cap = k := by have := HC.out; omega
     have HKN := Aside0.mk hk
     clear HPO hk0 hk
     go_wp2
     clear g0 g1 g4
     have R0 : Aside0 ((wr.drewN (1 + n)).heap[g]? = some (.cells (cs.map (·.1) ++ tail).toArray 29 (0, 0))) := ⟨blk_below HR.out.blk (pw_below_drewN HB.out _)⟩
     have B0 : Aside0 (ButB g w (wr.drewN (1 + n))) := ⟨(ButB.refl g w).below (pw_below_drewN HB.out _)⟩
     go_loopg [5, 7] cs.length (fun kq v5 v7 w' => ∃ (kk m : Nat) (X : List Value), v5 = .int .i64 kk ∧ v7 = .int .i64 m ∧ Aside0 ((1 ≤ m ∧ k + m ≤ cs.length ∧ cs.length ≤ kq + m) ∧ kk = (keepS (cs.take (k + m))).length ∧ kk < k + m) ∧ Aside0 (X.length = cs.length ∧ (∀ j, j < kk → X[j]? = (keepS (cs.take (k + m)))[j]?.map (·.1)) ∧ ∀ j, k + m - 1 ≤ j → X[j]? = (cs.map (·.1))[j]?) ∧ Aside0 (w'.heap[g]? = some (.cells (X ++ tail).toArray 29 (0, 0))) ∧ Aside0 (ButB g w w'))
     case atStart =>
      refine ⟨k, 1, cs.map (·.1), rfl, rfl, ⟨?_⟩, ⟨by simp, fun j hj => ?_, fun j _ => rfl⟩, R0, B0⟩
      ·rw [HKT.out, List.length_take]
       have := HKN.out
       omega
      ·rw [HKT.out, List.getElem?_take_of_lt hj, List.getElem?_map]
     case round =>
      clear R0 B0
      obtain ⟨kk, m, X, rfl, rfl, HI, HX, HW2, HBB⟩ := hrel
      by_cases hm : k + m < cs.length
      ·have hm1 := HI.out.1.1
       have d0 : decide ((m : Int) < ((cs.length - k : Nat) : Int)) = true := decide_eq_true (by omega)
       have d1 : decide (m < cs.length - k) = true := decide_eq_true (by omega)
       have q0 : (0 ≤ (m : Int)) = True := eq_true (by omega)
       have q1 : ((m : Int) < ((cs.length - k : Nat) : Int)) = True := eq_true (by omega)
       have q2 : (m < cs.length - k) = True := eq_true (by omega)
       have hw1 : wrap64 ((m : Int) - 1) = ((m - 1 : Nat) : Int) := by have := HC.out; unfold wrap64; omega
       have hw2 : wrap64 ((m : Int) + 1) = ((m + 1 : Nat) : Int) := by have := HC.out; unfold wrap64; omega
       have hw3 : IntKind.i64.wrap ((m : Int) - 1) = ((m - 1 : Nat) : Int) := (i64_w _).trans hw1
       have hw4 : wrap64 ((kk : Int) + 1) = ((kk + 1 : Nat) : Int) := by have := HC.out; have := HI.out.2.2; unfold wrap64; omega
       have q3 : (0 ≤ ((m - 1 : Nat) : Int)) = True := eq_true (by omega)
       have q4 : (((m - 1 : Nat) : Int) < ((cs.length - k : Nat) : Int)) = True := eq_true (by omega)
       have q5 : (m - 1 < cs.length - k) = True := eq_true (by omega)
       have HW := a0_ (And.intro hw2 hw4)
       have hk0 : k + m - 1 < cs.length := by omega
       obtain ⟨P, hP⟩ : ∃ P, P = cs[k + m] := ⟨_, rfl⟩
       obtain ⟨O, hO⟩ : ∃ O, O = cs[k + m - 1]'hk0 := ⟨_, rfl⟩
       have hcell : ∀ j v, X[j]? = some v → wr.cell? ⟨g, j, none⟩ = some v := fun j v hv => by
        rw [blk_cell HW2.out, List.getElem?_toArray, List.getElem?_append_left (List.getElem?_eq_some_iff.1 hv).1]
        exact hv
       have x0 := hcell (k + m) P.1 (by rw [HX.out.2.2 _ (by omega), List.getElem?_map, List.getElem?_eq_getElem hm, hP]; rfl)
       have x1 := hcell (k + (m - 1)) O.1 (by rw [HX.out.2.2 _ (by omega), List.getElem?_map, show k + (m - 1) = k + m - 1 by omega, List.getElem?_eq_getElem hk0, hO]; rfl)
       have hkk : kk < X.length := by have := HI.out.2.2; have := HX.out.1; omega
       obtain ⟨old, hold⟩ : ∃ old, X[kk]? = some old := ⟨_, List.getElem?_eq_getElem hkk⟩
       have x2 := hcell kk old hold
       clear hold
       have f2 : wr.frozen? ⟨g, kk, none⟩ = false := blk_frozen HW2.out _
       obtain ⟨A2, c2, e0, l0, r0⟩ := HE.out (k + m) hm
       obtain ⟨A3, c3, e1, l1, r1⟩ := HE.out (k + m - 1) hk0
       have hkt := keepS_take cs (k + m) (by omega) hm
       rw [← hP] at e0 l0 r0 hkt
       rw [← hO] at e1 l1 r1 hkt
       rw [e0] at x0
       rw [e1] at x1
       obtain ⟨kf, hkf⟩ := eqS_some P.2 O.2 (r0 w (fun _ _ _ => rfl)).2.1
       have hcall : ∀ W : World, Below wr.heap.size wr W → Calls Tryz.prog 98 #[.slice A2 P.2.length c2, .slice A3 O.2.length c3] W fun e w' => e = .returned (.bool (decide (cmpS P.2 O.2 = 0))) ∧ Drawn0 W w' := fun W hb => by
        have hall : ∀ q, q < w.heap.size → q ≠ g → W.heap[q]? = w.heap[q]? := fun q hq hn => (hb.block q (Nat.lt_of_lt_of_le hq HBB.out.size)).trans (HBB.out.block q hq hn)
        exact impl_equalShapes.calls kf A2 c2 _ A3 c3 _ _ W (r0 W hall) l0 (r1 W hall) l1 hkf
       by_cases hz : cmpS P.2 O.2 = 0
       ·rw [if_pos hz, List.append_nil] at hkt
        rw [decide_eq_true hz] at hcall
        have HCALL := Aside0.mk hcall
        have HKT2 := Aside0.mk hkt
        have HM := Aside0.mk hm
        clear hkt hz hcall r0 r1 hkf hcell e0 e1 l0 l1 hP hO x2 f2 hkk
        generalize P.2.length = np2 at x0 HCALL
        generalize O.2.length = no2 at x1 HCALL
        go_wp2
        go_region_held3 (fun w' => w'.cell? ⟨g, k + m, none⟩ = some (.slice A2 np2 c2) ∧ w'.cell? ⟨g, k + (m - 1), none⟩ = some (.slice A3 no2 c3)) (go_keep) ((go_at_call 98; (refine (HCALL.out _ ?_).mono ?_; exact below_drew1 (Below.refl _ _); rintro e w2 ⟨rfl, ⟨n2, rfl⟩⟩)))
        go_wp2
        go_roundg (cs.length - (m + 1))
        case measure => (have := HI.out.1; have := HM.out; omega)
        case rel => exact ⟨kk, m + 1, X, rfl, congrArg (Value.int .i64) HW.out.1, ⟨by have := HI.out.1; have := HM.out; omega, by rw [← Nat.add_assoc, HKT2.out]; exact HI.out.2.1, by have := HI.out.2.2; omega⟩, ⟨HX.out.1, fun j hj => by rw [← Nat.add_assoc, HKT2.out]; exact HX.out.2.1 j hj, fun j hj => HX.out.2.2 j (by omega)⟩, ⟨HW2.out⟩, ⟨HBB.out.below (pw_below_drewN (Below.refl _ _) _)⟩⟩
       ·rw [if_neg hz] at hkt
        rw [decide_eq_false hz] at hcall
        have HCALL := Aside0.mk hcall
        have HKT2 := Aside0.mk hkt
        have HM := Aside0.mk hm
        have HPE := Aside0.mk e0
        have hX2 : ∀ W : World, W.heap[g]? = wr.heap[g]? → (W.setCell ⟨g, kk, none⟩ (.slice A2 P.2.length c2)).heap[g]? = some (.cells (X.set kk (.slice A2 P.2.length c2) ++ tail).toArray 29 (0, 0)) := fun W hW => by
         refine blk_put (hW.trans HW2.out) kk _ ?_
         apply Array.toList_inj.1
         rw [Array.toList_setIfInBounds, List.set_append_left _ _ hkk]
        have HX2 := Aside0.mk hX2
        clear hX2
        have HKX := Aside0.mk hkk
        clear hkt hz hcall r0 r1 hkf hcell e1 l0 l1 hP hO hkk e0
        generalize hnp : P.2.length = np2 at x0 HCALL HX2 HPE
        generalize O.2.length = no2 at x1 HCALL
        have u0 : (0 ≤ (kk : Int)) = True := eq_true (by omega)
        have u1 : ((kk : Int) < (cs.length : Int)) = True := eq_true (by have := HKX.out; have := HX.out.1; omega)
        have u2 : (kk < cs.length) = True := eq_true (by have := HKX.out; have := HX.out.1; omega)
        clear hnp
        go_wp2
        go_region_held3 (fun w' => w'.cell? ⟨g, k + m, none⟩ = some (.slice A2 np2 c2) ∧ w'.cell? ⟨g, k + (m - 1), none⟩ = some (.slice A3 no2 c3) ∧ w'.cell? ⟨g, kk, none⟩ = some old ∧ w'.frozen? ⟨g, kk, none⟩ = false) (go_keep) ((go_at_call 98; (refine (HCALL.out _ ?_).mono ?_; exact below_drew1 (Below.refl _ _); rintro e w2 ⟨rfl, ⟨n2, rfl⟩⟩)))
        go_wp2
        go_roundg (cs.length - (m + 1))
        case measure => (have := HI.out.1; have := HM.out; omega)
        case rel =>
         have hle := HKX.out
         have hlen := HX.out.1
         have hi := HI.out
         have hk2 : (keepS (cs.take (k + (m + 1)))).length = kk + 1 := by rw [← Nat.add_assoc, HKT2.out, List.length_append, ← hi.2.1]; rfl
         refine ⟨kk + 1, m + 1, X.set kk (.slice A2 np2 c2), congrArg (Value.int .i64) HW.out.2, congrArg (Value.int .i64) HW.out.1, ⟨by have := HM.out; omega, hk2.symm, by omega⟩, ⟨by rw [List.length_set]; exact hlen, fun j hj => ?_, fun j hj => ?_⟩, ⟨HX2.out _ rfl⟩, ⟨(HBB.out.below (pw_below_drewN (Below.refl _ _) _)).set _ _⟩⟩
         ·rw [← Nat.add_assoc, HKT2.out]
          by_cases e : j = kk
          ·subst e
           rw [List.getElem?_set_self hle, List.getElem?_append_right (by omega), hi.2.1, Nat.sub_self, ← HPE.out]
           rfl
          ·rw [List.getElem?_set_ne (by omega), HX.out.2.1 j (by omega), List.getElem?_append_left (by omega)]
         ·rw [List.getElem?_set_ne (by omega)]
          exact HX.out.2.2 j (by omega)
      ·have hend : k + m = cs.length := by have := HI.out.1; omega
       have hlt := HI.out.2.2
       have hkl := HI.out.2.1
       rw [hend, List.take_length] at hkl
       have hcc := HC.out
       have d0 : decide ((m : Int) < ((cs.length - k : Nat) : Int)) = false := decide_eq_false (by omega)
       have d1 : decide (m < cs.length - k) = false := decide_eq_false (by omega)
       have g0 : (0 : Int) ≤ (kk : Int) := by omega
       have g1 : (kk : Int) ≤ (cs.length : Int) := by omega
       have g4 : ¬ cap = kk := by omega
       have g5 : kk ≤ cs.length := by omega
       have g6 : kk ≤ cap := by omega
       have hXt : X = X.take kk ++ X.drop kk := (List.take_append_drop _ _).symm
       have hblk : wr.heap[g]? = some (.cells (X.take kk ++ (X.drop kk ++ tail)).toArray 29 (0, 0)) := by rw [← List.append_assoc, List.take_append_drop]; exact HW2.out
       have hset := setCells_blk g 29 (0, 0) (List.replicate (cs.length - kk) (.slice none 0 0)) (X.take kk) (X.drop kk) tail wr (by rw [List.length_drop, List.length_replicate, HX.out.1]) hblk
       rw [show (X.take kk).length = kk by rw [List.length_take, HX.out.1]; omega] at hset
       have hkp : X.take kk = (keepS cs).map (·.1) := by
        refine List.ext_getElem? (fun j => ?_)
        by_cases hj : j < kk
        ·have := HX.out.2.1 j hj
         rw [hend, List.take_length] at this
         rw [List.getElem?_take_of_lt hj, this, List.getElem?_map]
        ·rw [List.getElem?_eq_none (by simp; omega), List.getElem?_eq_none (by rw [List.length_map]; omega)]
       rw [hkp] at hset
       have hcl : ∀ ty, (Builtin.clear_ #[22] ty #[.slice (some ⟨g, kk, none⟩) (cs.length - kk) (cap - kk)]).run Tryz.prog wr = .ok (.tuple #[]) (wr.setCells g kk (List.replicate (cs.length - kk) (.slice none 0 0))) := fun ty =>
        Lib.run_clear_slice wr _ _ ty _ Tryz.underlying22 Tryz.zeroValue29 rfl rfl g kk _ _ (by omega) (fun j hj => by
         rw [blk_cell HW2.out, List.getElem?_toArray, List.getElem?_append_left (by rw [HX.out.1]; omega), List.getElem?_eq_getElem (by rw [HX.out.1]; omega)]
         rfl) (fun j hj => blk_frozen HW2.out _)
       have HSET := Aside0.mk hset
       have HSB := a0_ (setCells_but g (List.replicate (cs.length - kk) (.slice none 0 0)) kk wr w HBB.out)
       have HKL := Aside0.mk hkl
       have HLT := a0_ (show kk < cs.length by omega)
       clear hset hkp hXt hblk hkl hcc hend hlt hm
       go_wp2
       go_ret
       refine ⟨by rw [← HKL.out]; rfl, ⟨List.replicate (cs.length - kk) (.slice none 0 0) ++ tail, ?_, HR.out.step (keepS_sub cs) HSET.out HSB.out.block⟩, HSB.out⟩
       rw [← HKL.out, List.length_append, List.length_replicate]
       have := HC.out.1
       have := HLT.out
       omega
    ·rw [if_neg hz, HT.out] at hkt
     rw [decide_eq_false hz] at hcall
     have HCALL := Aside0.mk hcall
     have HKT : Aside0 (keepS (cs.take (k + 1)) = cs.take (k + 1)) := ⟨by rw [hkt, hP, List.take_succ_eq_append_getElem hk]⟩
     have HKN := Aside0.mk hk
     clear hkt hz hcall r0 r1 hkf hcell hbk e0 e1 l0 l1 hP hO
     generalize P.2.length = np at x0 HCALL
     generalize O.2.length = no at x1 HCALL
     go_wp2
     go_region_held3 (fun w' => w'.cell? ⟨g, k, none⟩ = some (.slice A0 np c0) ∧ w'.cell? ⟨g, k - 1, none⟩ = some (.slice A1 no c1)) (go_keep) ((go_at_call 98; (refine (HCALL.out _ ?_).mono ?_; exact below_drew1 (Below.refl _ _); rintro e w2 ⟨rfl, ⟨n, rfl⟩⟩)))
     go_wp2
     go_roundg (cs.length - (k + 1))
     case measure => (have := HK.out; have := HKN.out; omega)
     case rel => exact ⟨k + 1, congrArg (Value.int .i64) HW.out.2, ⟨by have := HK.out; have := HKN.out; omega⟩, HKT, ⟨pw_below_drewN HB.out _⟩⟩
   ·obtain rfl : k = cs.length := by have := HK.out; omega
    have d0 : decide ((cs.length : Int) < (cs.length : Int)) = false := decide_eq_false (by omega)
    have d1 : decide (cs.length < cs.length) = false := decide_eq_false (by omega)
    have hks := HT.out
    rw [List.take_length] at hks
    have HKS := Aside0.mk hks
    clear hks hk
    go_wp2
    go_ret
    rw [HKS.out]
    exact ⟨rfl, ⟨tail, HC.out.1, HR.out.step (fun p hp => hp) (blk_below HR.out.blk HB.out) (fun q hq _ => HB.out.block q hq)⟩, (ButB.refl g w).below HB.out⟩
def impl_tidyShapes.f (L : List (List S56)) : Option (List (List S56)) := some (tidyL L)
set_option maxHeartbeats 1000000 in
theorem impl_tidyShapes.calls (L : List (List S56)) (v : Value) (w0 w : World) (base : Nat) (ok : Nat → Prop) (hB : Below base w0 w) (hb0 : base ≤ w0.heap.size) (hR : (Kd.slice 56 k56).R 29 w base ok v L) (hl : L.length < 4611686018427387904) :
  Calls Tryz.prog 89 #[v] w fun e w' => ∃ u, e = .returned u ∧ (Kd.slice 56 k56).R 29 w' base ok u (tidyL L) ∧ Below base w0 w' := by
 rcases RoR.of_R hR with ⟨rfl, rfl⟩ | ⟨g, cap, cs, tail, rfl, hcs, hct, hm, hrows⟩
 ·have h1 := fun W => AnyF.slices_SortFunc_none (P := Tryz.prog) { Tryz.sortS with } none 0 (.func (.func 74) #[] #[]) W
  have h2 : ∀ W : World, Calls Tryz.prog 97 #[.slice none 0 0, .func (.func 98) #[] #[]] W fun e w' => e = .returned (.slice none 0 0) ∧ w' = W := fun W => by
   go_enter Tryz.func97, Tryz.ntmps97
   go_wp2
   go_ret
   exact ⟨rfl, rfl⟩
  have HR := Aside0.mk hR
  have HB := Aside0.mk hB
  clear hR hB
  go_enter Tryz.func89, Tryz.ntmps89
  go_wp2_with (first | (go_at_call 96; (refine (h1 _).mono ?_; rintro e w1 ⟨rfl, rfl⟩)) | (go_at_call 97; (refine (h2 _).mono ?_; rintro e w1 ⟨rfl, rfl⟩)))
  go_ret
  have ht : tidyL ([] : List (List S56)) = [] := by simp [tidyL, sortS, dedS]
  refine ⟨_, rfl, ?_, HB.out⟩
  rw [ht]
  exact HR.out
 ·have hlen : cs.length = L.length := by rw [← hcs, List.length_map]
  have hs := sortShapes_calls w base ok g cap cs tail hrows (by omega)
  rw [hlen] at hs
  have HCT := a0_ (And.intro hct hm)
  have HCS := Aside0.mk hcs
  have HB := Aside0.mk hB
  have HG := Aside0.mk hrows.ge
  have HLL := Aside0.mk hlen
  clear hR hB hrows hcs hct hm hlen
  go_enter Tryz.func89, Tryz.ntmps89
  go_wp2_with (first | (go_at_call 96; (refine hs.mono ?_; rintro e w1 ⟨rfl, cs', hl', hc', hr', hb', _⟩; have HL' := a0_ (And.intro hl' hc'); have HR' := Aside0.mk hr'; have HB' := Aside0.mk hb'; clear hl' hc' hr' hb')) | (go_at_call 97; (have hk := compactShapes_calls w1 base ok g cap cs' tail HR'.out (by have := HCT.out.1; have := HLL.out; have := HL'.out.1; omega) HCT.out.2; rw [HL'.out.1] at hk; refine hk.mono ?_; clear hk; rintro e w2 ⟨rfl, ⟨tail', ht', hr2⟩, hb2⟩; have HT2 := Aside0.mk ht'; have HR2 := Aside0.mk hr2; have HB2 := Aside0.mk hb2; clear ht' hr2 hb2)))
  go_ret
  refine ⟨_, rfl, ?_, HB2.out.from_ (HB'.out.from_ HB.out hb0 HG.out) hb0 HG.out⟩
  have h3 := HR2.out.R HT2.out HCT.out.2
  rw [keepS_snd, HL'.out.2, HCS.out] at h3
  exact h3
def Dist (cs : List (Value × List S56)) : Prop := cs.Pairwise (fun p q => ∀ k, p.1.ownBlock = some k → q.1.ownBlock ≠ some k)
theorem Dist.perm {cs cs' : List (Value × List S56)} (h : Dist cs) (hp : cs'.Perm cs) : Dist cs' :=
 (hp.pairwise_iff (fun {x y} h1 k hk hx => h1 k hx hk)).2 h
theorem keepP_sublist : ∀ (r : List (Value × List S56)) (p : List S56), (keepP p r).Sublist r
 | [], _ => List.Sublist.refl _
 | y :: r, p => by
  rw [keepP]
  by_cases e : cmpS y.2 p = 0
  ·rw [if_pos e]; exact (keepP_sublist r _).cons _
  ·rw [if_neg e]; exact (keepP_sublist r _).cons_cons _
theorem keepS_sublist (L : List (Value × List S56)) : (keepS L).Sublist L := by
 cases L with
 | nil => exact List.Sublist.refl _
 | cons x r => exact (keepP_sublist r _).cons_cons _
theorem R_ownC {base : Nat} {ok ok' : Nat → Prop} {w : World} {v : Value} {x : List S56} (h : Kd.R k56 56 w base ok v x) (ho : ∀ k, v.ownBlock = some k → ok' k) : Kd.R k56 56 w base ok' v x := by
 obtain ⟨_, inner, own, reps⟩ := h
 exact ⟨ho, inner, own, reps.imp_ (fun p c hc => by rw [k56_openM hc]; exact k56_mkM _ _ _ p)⟩
def RD (base : Nat) (ok : Nat → Prop) (w : World) (v : Value) (L : List (List S56)) : Prop :=
 (v = .slice none 0 0 ∧ L = []) ∨ ∃ (g cap : Nat) (cs : List (Value × List S56)) (tail : List Value), v = .slice (some ⟨g, 0, none⟩) L.length cap ∧ cs.map (·.2) = L ∧ L.length + tail.length = cap ∧ cap ≤ maxLen ∧ RoR k56 56 29 base ok w g cs tail ∧ Dist cs
theorem RD_of_S {base : Nat} {ok : Nat → Prop} {w : World} {v : Value} {L : List (List S56)} (h : Kd.S (Kd.slice 56 k56) 29 w base ok v L) : RD base ok w v L := by
 have hR := Kd.S_R h
 obtain ⟨f, hok, inner, own, reps⟩ := h
 rw [List.length_zipIdx] at own
 have hel : ∀ (j : Nat) (u : Value) (x : List S56), inner[j]? = some u → L[j]? = some x → ∀ k, u.ownBlock = some k → f k = j := by
  intro j u x hu hx k hk
  obtain ⟨v1, e1, h1⟩ := reps.2 j (x, j) (Kd.zip_at hx)
  have e2 : ((inner.drop (j * 1)).take 1)[0]? = some u := by
   rw [List.getElem?_take_of_lt (by omega), List.getElem?_drop, Nat.mul_one, Nat.add_zero]
   exact hu
  have e3 : ((inner.drop (j * 1)).take 1) = [v1] := e1
  rw [e3] at e2
  obtain rfl : v1 = u := by simpa using e2
  exact (h1.1 k hk).2
 rcases RoR.of_R hR with h0 | ⟨g, cap, cs, tail, e, hcs, hct, hm, hr⟩
 ·exact .inl h0
 ·refine .inr ⟨g, cap, cs, tail, e, hcs, hct, hm, hr, ?_⟩
  have hcl : cs.length = L.length := by rw [← hcs, List.length_map]
  have hin : ∀ j (hj : j < cs.length), inner[j]? = some cs[j].1 := fun j hj => by
   obtain ⟨o1, o2⟩ := own
   rcases o2 with ⟨e0, _⟩ | ⟨g', cap', cur, ev, hb, hh, hn, hc, hcs', ht⟩
   ·rw [e] at e0; cases e0
   ·rw [e] at ev
    cases ev
    have e2 : cur = (cs.map (·.1) ++ tail).toArray := by
     have h1 := hr.blk
     rw [hh] at h1
     have := Option.some.inj h1
     injection this
    have ht' : cur.toList.take (L.length * 1) = inner := ht
    rw [← ht', e2, List.getElem?_take_of_lt (by omega)]
    show (cs.map (·.1) ++ tail)[j]? = _
    rw [List.getElem?_append_left (by simpa using hj), List.getElem?_map, List.getElem?_eq_getElem hj]
    rfl
  have hLj : ∀ j (hj : j < cs.length), L[j]? = some cs[j].2 := fun j hj => by
   rw [← hcs, List.getElem?_map, List.getElem?_eq_getElem hj]
   rfl
  unfold Dist
  rw [List.pairwise_iff_getElem]
  intro i j hi hj hij k hk1 hk2
  have h1 := hel i _ _ (hin i hi) (hLj i hi) k hk1
  have h2 := hel j _ _ (hin j hj) (hLj j hj) k hk2
  omega
theorem S_of_RD {base : Nat} {ok : Nat → Prop} {w : World} {v : Value} {L : List (List S56)} (h : RD base ok w v L) : Kd.S (Kd.slice 56 k56) 29 w base ok v L := by
 rcases h with ⟨rfl, rfl⟩ | ⟨g, cap, cs, tail, rfl, hcs, hct, hm, hr, hd⟩
 ·exact Kd.S_nil _ _ _ _ _
 ·have hcl : cs.length = L.length := by rw [← hcs, List.length_map]
  obtain ⟨hok, inner, own, reps⟩ := hr.R (cap := cap) (by omega) hm
  subst hcs
  rw [List.length_map] at *
  refine ⟨fun k => cs.findIdx (fun p => decide (p.1.ownBlock = some k)), hok, cs.map (·.1), ⟨?_, .inr ⟨g, cap, _, by rw [List.length_zipIdx, List.length_map], hr.ge, hr.blk, ?_, hm, ?_, ?_⟩⟩, ?_, fun j x hx => ?_⟩
  ·simp [Kd.tag, Kd.sz, Kd.slice]
  ·simp; omega
  ·simp [Kd.tag, Kd.sz, Kd.slice]; omega
  ·simp [Kd.tag, Kd.sz, Kd.slice]
  ·simp [Kd.tag, Kd.sz, Kd.slice]
  ·rw [List.getElem?_zipIdx, List.getElem?_map] at hx
   simp only [Nat.zero_add, Option.map_eq_some_iff] at hx
   obtain ⟨y, ⟨p, hp, rfl⟩, rfl⟩ := hx
   have hj := (List.getElem?_eq_some_iff.1 hp).1
   have hpe := (List.getElem?_eq_some_iff.1 hp).2
   refine ⟨p.1, ?_, R_ownC (hr.el p (List.mem_of_getElem? hp)) (fun k hk => ?_)⟩
   ·have e : ((cs.map (·.1)).drop j).take 1 = [p.1] := by
     rw [List.drop_eq_getElem_cons (by simpa using hj), List.take_succ_cons, List.take_zero, List.getElem_map, hpe]
    show ((cs.map (·.1)).drop (j * 1)).take 1 = [p.1]
    rw [Nat.mul_one]
    exact e
   ·have h1 := (hr.el p (List.mem_of_getElem? hp)).1 k hk
    refine ⟨⟨h1.1, fun e => h1.2 ?_⟩, ?_⟩
    ·simpa [Value.ownBlock] using e
    ·show cs.findIdx (fun p => decide (p.1.ownBlock = some k)) = j
     rw [List.findIdx_eq hj]
     refine ⟨by rw [hpe]; exact decide_eq_true hk, fun i hi => ?_⟩
     refine decide_eq_false (fun e => ?_)
     have h2 := List.pairwise_iff_getElem.1 hd i j (by omega) hj hi k e
     rw [hpe] at h2
     exact h2 hk
set_option maxHeartbeats 1000000 in
theorem tidyShapes_S (L : List (List S56)) (v : Value) (w0 w : World) (base : Nat) (ok : Nat → Prop) (hB : Below base w0 w) (hb0 : base ≤ w0.heap.size) (hS : Kd.S (Kd.slice 56 k56) 29 w base ok v L) (hl : L.length < 4611686018427387904) :
  Calls Tryz.prog 89 #[v] w fun e w' => ∃ u, e = .returned u ∧ Kd.S (Kd.slice 56 k56) 29 w' base ok u (tidyL L) ∧ Below base w0 w' := by
 rcases RD_of_S hS with ⟨rfl, rfl⟩ | ⟨g, cap, cs, tail, rfl, hcs, hct, hm, hrows, hd⟩
 ·refine (impl_tidyShapes.calls [] _ w0 w base ok hB hb0 (Kd.S_R hS) (by simp)).mono ?_
  rintro e w' ⟨u, rfl, hR, hb⟩
  have ht : tidyL ([] : List (List S56)) = [] := by simp [tidyL, sortS, dedS]
  rw [ht] at hR ⊢
  refine ⟨u, rfl, ?_, hb⟩
  rcases RoR.of_R hR with h0 | ⟨g, cap, cs, tail, e, hcs, hct, hm, hr⟩
  ·exact S_of_RD (.inl h0)
  ·have : cs = [] := by simpa using hcs
   subst this
   exact S_of_RD (.inr ⟨g, cap, [], tail, e, hcs, hct, hm, hr, List.Pairwise.nil⟩)
 ·have hlen : cs.length = L.length := by rw [← hcs, List.length_map]
  have hs := sortShapes_calls w base ok g cap cs tail hrows (by omega)
  rw [hlen] at hs
  have HCT := a0_ (And.intro hct hm)
  have HCS := Aside0.mk hcs
  have HB := Aside0.mk hB
  have HG := Aside0.mk hrows.ge
  have HLL := Aside0.mk hlen
  have HD := Aside0.mk hd
  clear hS hB hrows hcs hct hm hlen hd
  go_enter Tryz.func89, Tryz.ntmps89
  go_wp2_with (first | (go_at_call 96; (refine hs.mono ?_; rintro e w1 ⟨rfl, cs', hl', hc', hr', hb', hp'⟩; have HL' := a0_ (And.intro hl' hc'); have HR' := Aside0.mk hr'; have HB' := Aside0.mk hb'; have HP' := Aside0.mk hp'; clear hl' hc' hr' hb' hp')) | (go_at_call 97; (have hk := compactShapes_calls w1 base ok g cap cs' tail HR'.out (by have := HCT.out.1; have := HLL.out; have := HL'.out.1; omega) HCT.out.2; rw [HL'.out.1] at hk; refine hk.mono ?_; clear hk; rintro e w2 ⟨rfl, ⟨tail', ht', hr2⟩, hb2⟩; have HT2 := Aside0.mk ht'; have HR2 := Aside0.mk hr2; have HB2 := Aside0.mk hb2; clear ht' hr2 hb2)))
  go_ret
  have hmap : (keepS cs').map (·.2) = tidyL L := by rw [keepS_snd, HL'.out.2, HCS.out]; rfl
  have hkl : (keepS cs').length = (tidyL L).length := by rw [← hmap, List.length_map]
  rw [hkl] at HT2 ⊢
  exact ⟨_, rfl, S_of_RD (.inr ⟨g, cap, keepS cs', _, rfl, hmap, HT2.out, HCT.out.2, HR2.out, (HD.out.perm HP'.out).sublist (keepS_sublist cs')⟩), HB2.out.from_ (HB'.out.from_ HB.out hb0 HG.out) hb0 HG.out⟩
end Go.Proofs.YtmdjkmfocgelnaaGreatDoor.PFnAllNets
