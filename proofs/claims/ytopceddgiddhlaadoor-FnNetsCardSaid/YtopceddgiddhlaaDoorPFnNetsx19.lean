/- Over the kit's printer by a driver of mine (hprint.py), with parts by hand: functions of the program as Lean functions, and that each call comes to exactly these answers. -/
import Derived.Test.YtopceddgiddhlaaDoorPFnNetsx0
import Derived.Test.YtopceddgiddhlaaDoorPFnNetsx2
import Derived.Test.YtopceddgiddhlaaDoorPFnNetsx5
import Derived.Test.YtopceddgiddhlaaDoorPFnNetsx10
import Derived.Test.YtopceddgiddhlaaDoorPFnNetsx11
import Derived.Test.YtopceddgiddhlaaDoorPFnNetsx12
import Derived.Test.YtopceddgiddhlaaDoorPFnNetsx18
namespace Go.Proofs.YtopceddgiddhlaaDoor.PFnNets
open Go.RowKit Go.Proofs.YtopceddgiddhlaaDoorW.PrintWords Go.Proofs.YtopceddgiddhlaaDoorW.PrintLast Go.Proofs.YtopceddgiddhlaaDoorW.PrintMore
attribute [local go_sem] max2_int min2_int max_two min_two max_three min_three max_four min_four   -- for this text's walks alone
set_option linter.unusedVariables false
set_option linter.unusedSimpArgs false

/-- A state of type 61 at block g of W; what its slices lead to came in by w0. -/
def IsS61 (w0 W : World) (g : Nat) (f0 : List Int) (f1 : Int) (f2 : Int) : Prop := ∃ A0 c0, W.heap[g]? = some (.cells #[.slice A0 f0.length c0, .int .i64 f1, .int .u64 f2] 61 (0, 0)) ∧ w0.heap.size ≤ g ∧ Kd.C (Kd.int .u8) w0 A0 f0.length f0
theorem IsS61.grown {w0 W : World} {g : Nat} {f0 : List Int} {f1 : Int} {f2 : Int} {W1 : World} {row : Option Nat} (h : IsS61 w0 W g f0 f1 f2) (hw : W.grownBy W1 row) (hne : some g ≠ row) : IsS61 w0 W1 g f0 f1 f2 := by
 obtain ⟨A0, c0, hb, hg, hr0⟩ := h
 exact ⟨A0, c0, blk_grown hb hw hne, hg, hr0⟩
theorem IsS61.own_neN {w0 W : World} {g : Nat} {f0 : List Int} {f1 : Int} {f2 : Int} {α : Type} {d : Kd α} {e : Nat} {base : Nat} {ok : Nat → Prop} {v : Value} {xs : List α} (h : IsS61 w0 W g f0 f1 f2) (ho : Kd.N d e W base ok v xs) (ht : e ≠ 61) : some g ≠ v.ownBlock := by
 obtain ⟨A0, c0, hb, hg, hr0⟩ := h
 exact Kd.N_ne ho hb ht
theorem IsS61.fresh {w0 W : World} {g : Nat} {f0 : List Int} {f1 : Int} {f2 : Int} (h : IsS61 w0 W g f0 f1 f2) : ∀ k, W.heap.size ≤ k → k ≠ g := by
 obtain ⟨A0, c0, hb, hg, hr0⟩ := h
 exact Kd.freshB hb
theorem IsS61.kept {w0 W : World} {g : Nat} {f0 : List Int} {f1 : Int} {f2 : Int} {W1 : World} {S : Nat → Prop} (h : IsS61 w0 W g f0 f1 f2) (hk : Kept W W1 S) (hne : ¬ S g) : IsS61 w0 W1 g f0 f1 f2 := by
 obtain ⟨A0, c0, hb, hg, hr0⟩ := h
 exact ⟨A0, c0, blk_kept hb hk hne, hg, hr0⟩
theorem IsS61.below {w0 W : World} {g : Nat} {f0 : List Int} {f1 : Int} {f2 : Int} {W1 : World} (h : IsS61 w0 W g f0 f1 f2) (hw : Below W.heap.size W W1) : IsS61 w0 W1 g f0 f1 f2 := h.grown (grown_of_below hw none) (by simp)
theorem IsS61.alloc {w0 W : World} {g : Nat} {f0 : List Int} {f1 : Int} {f2 : Int} (h : IsS61 w0 W g f0 f1 f2) (o : Obj) : IsS61 w0 (W.alloc o) g f0 f1 f2 := h.below (below_alloc (Below.refl _ _) o)
theorem IsS61.drewN {w0 W : World} {g : Nat} {f0 : List Int} {f1 : Int} {f2 : Int} (h : IsS61 w0 W g f0 f1 f2) (m : Nat) : IsS61 w0 (W.drewN m) g f0 f1 f2 := h
theorem IsS61.drew {w0 W : World} {g : Nat} {f0 : List Int} {f1 : Int} {f2 : Int} (h : IsS61 w0 W g f0 f1 f2) : IsS61 w0 W.drew g f0 f1 f2 := h
theorem IsS61.at_ {w0 W : World} {g : Nat} {f0 : List Int} {f1 : Int} {f2 : Int} {w' : World} {m : Nat} (hq : W.drewN m = w') (h : IsS61 w0 W g f0 f1 f2) : IsS61 w0 w' g f0 f1 f2 := by subst hq; exact IsS61.drewN h m
theorem IsS61.apart {w0 W : World} {g : Nat} {f0 : List Int} {f1 : Int} {f2 : Int} {α : Type} {d : Kd α} {e : Nat} {base : Nat} {ok : Nat → Prop} {v : Value} {xs : List α} (h : IsS61 w0 W g f0 f1 f2) (ho : d.R e W base ok v xs) (ht : ∀ q, q ∈ e :: d.E → q ≠ 61) : d.R e W base (fun k => ok k ∧ k ≠ g) v xs := by
 obtain ⟨A0, c0, hb, hg, hr0⟩ := h
 exact Kd.R_types ho hb ht
theorem IsS61.own_ne {w0 W : World} {g : Nat} {f0 : List Int} {f1 : Int} {f2 : Int} {α : Type} {d : Kd α} {e : Nat} {base : Nat} {ok : Nat → Prop} {v : Value} {xs : List α} (h : IsS61 w0 W g f0 f1 f2) (ho : d.R e W base ok v xs) (ht : e ≠ 61) : some g ≠ v.ownBlock := by
 obtain ⟨A0, c0, hb, hg, hr0⟩ := h
 exact Kd.R_ne ho hb ht
theorem IsS61.apartQ {w0 W : World} {g : Nat} {f0 : List Int} {f1 : Int} {f2 : Int} {α : Type} {d : Kd α} {e : Nat} {base : Nat} {ok : Nat → Prop} {v : Value} {xs : List α} (h : IsS61 w0 W g f0 f1 f2) (ho : d.Q e W base ok v xs) (ht : ∀ q, q ∈ e :: d.E → q ≠ 61) : d.Q e W base (fun k => ok k ∧ k ≠ g) v xs := by
 obtain ⟨A0, c0, hb, hg, hr0⟩ := h
 exact Kd.Q_types ho hb ht
theorem IsS61.own_neQ {w0 W : World} {g : Nat} {f0 : List Int} {f1 : Int} {f2 : Int} {α : Type} {d : Kd α} {e : Nat} {base : Nat} {ok : Nat → Prop} {v : Value} {xs : List α} (h : IsS61 w0 W g f0 f1 f2) (ho : d.Q e W base ok v xs) (ht : e ≠ 61) : some g ≠ v.ownBlock := by
 obtain ⟨A0, c0, hb, hg, hr0⟩ := h
 exact Kd.Q_ne ho hb ht
theorem IsS61.apartS {w0 W : World} {g : Nat} {f0 : List Int} {f1 : Int} {f2 : Int} {α : Type} {d : Kd α} {e : Nat} {base : Nat} {ok : Nat → Prop} {v : Value} {xs : List α} (h : IsS61 w0 W g f0 f1 f2) (ho : d.S e W base ok v xs) (ht : ∀ q, q ∈ e :: d.E → q ≠ 61) : d.S e W base (fun k => ok k ∧ k ≠ g) v xs := by
 obtain ⟨A0, c0, hb, hg, hr0⟩ := h
 exact Kd.S_types ho hb ht
theorem IsS61.own_neS {w0 W : World} {g : Nat} {f0 : List Int} {f1 : Int} {f2 : Int} {α : Type} {d : Kd α} {e : Nat} {base : Nat} {ok : Nat → Prop} {v : Value} {xs : List α} (h : IsS61 w0 W g f0 f1 f2) (ho : d.S e W base ok v xs) (ht : e ≠ 61) : some g ≠ v.ownBlock := by
 obtain ⟨A0, c0, hb, hg, hr0⟩ := h
 exact Kd.S_ne ho hb ht
theorem IsS61.lt {w0 W : World} {g : Nat} {f0 : List Int} {f1 : Int} {f2 : Int} (h : IsS61 w0 W g f0 f1 f2) : g < W.heap.size := by
 obtain ⟨A0, c0, hb, hg, hr0⟩ := h
 exact blk_lt hb
theorem IsS61.ge {w0 W : World} {g : Nat} {f0 : List Int} {f1 : Int} {f2 : Int} (h : IsS61 w0 W g f0 f1 f2) : w0.heap.size ≤ g := by
 obtain ⟨A0, c0, hb, hg, hr0⟩ := h
 exact hg
theorem IsS61.ne_blk {w0 W : World} {g : Nat} {f0 : List Int} {f1 : Int} {f2 : Int} {a : Nat} {cs : Array Value} {t : TypeId} {fr : Nat × Nat} (h : IsS61 w0 W g f0 f1 f2) (hb2 : W.heap[a]? = some (.cells cs t fr)) (ht : t ≠ 61) : g ≠ a := by
 obtain ⟨A0, c0, hb, hg, hr0⟩ := h
 rintro rfl
 rw [hb] at hb2
 injection hb2 with hb2
 injection hb2 with _ ht2
 exact ht ht2.symm
theorem IsS61.far {w0 W : World} {g : Nat} {f0 : List Int} {f1 : Int} {f2 : Int} {p : Addr} (h : IsS61 w0 W g f0 f1 f2) (hne : g ≠ p.block) (u : Value) : IsS61 w0 (W.setCell p u) g f0 f1 f2 := by
 obtain ⟨A0, c0, hb, hg, hr0⟩ := h
 exact ⟨A0, c0, blk_far hb hne u, hg, hr0⟩
theorem cellS61_0 {W : World} {g : Nat} {A0 : Option Addr} {c0 : Nat} {f0 : List Int} {f1 : Int} {f2 : Int} (h : W.heap[g]? = some (.cells #[.slice A0 f0.length c0, .int .i64 f1, .int .u64 f2] 61 (0, 0))) : W.cell? ⟨g, 0, none⟩ = some (.slice A0 f0.length c0) := (blk_cell h 0).trans rfl
theorem cellS61_1 {W : World} {g : Nat} {A0 : Option Addr} {c0 : Nat} {f0 : List Int} {f1 : Int} {f2 : Int} (h : W.heap[g]? = some (.cells #[.slice A0 f0.length c0, .int .i64 f1, .int .u64 f2] 61 (0, 0))) : W.cell? ⟨g, 1, none⟩ = some (.int .i64 f1) := (blk_cell h 1).trans rfl
theorem IsS61.set_1 {w0 W : World} {g : Nat} {f0 : List Int} {f1 : Int} {f2 : Int} (h : IsS61 w0 W g f0 f1 f2) (x : Int) : IsS61 w0 (W.setCell ⟨g, 1, none⟩ (.int .i64 x)) g f0 x f2 := by
 obtain ⟨A0, c0, hb, hg, hr0⟩ := h
 exact ⟨A0, c0, by simpa using blk_set hb 1 (.int .i64 x), hg, hr0⟩
theorem cellS61_2 {W : World} {g : Nat} {A0 : Option Addr} {c0 : Nat} {f0 : List Int} {f1 : Int} {f2 : Int} (h : W.heap[g]? = some (.cells #[.slice A0 f0.length c0, .int .i64 f1, .int .u64 f2] 61 (0, 0))) : W.cell? ⟨g, 2, none⟩ = some (.int .u64 f2) := (blk_cell h 2).trans rfl
theorem IsS61.set_2 {w0 W : World} {g : Nat} {f0 : List Int} {f1 : Int} {f2 : Int} (h : IsS61 w0 W g f0 f1 f2) (x : Int) : IsS61 w0 (W.setCell ⟨g, 2, none⟩ (.int .u64 x)) g f0 f1 x := by
 obtain ⟨A0, c0, hb, hg, hr0⟩ := h
 exact ⟨A0, c0, by simpa using blk_set hb 2 (.int .u64 x), hg, hr0⟩
theorem IsS61.new (w0 W : World) (A0 : Option Addr) (c0 : Nat) (f0 : List Int) (f1 : Int) (f2 : Int) (hB : Below w0.heap.size w0 W) (hr0 : Kd.C (Kd.int .u8) w0 A0 f0.length f0) : IsS61 w0 (W.alloc (.cells #[.slice A0 f0.length c0, .int .i64 f1, .int .u64 f2] 61)) W.heap.size f0 f1 f2 := ⟨A0, c0, by simpa using heap_alloc_new W _, hB.size, hr0⟩
theorem is61_ {p q : Prop} (g : q) (h : q → p := by intro G_; repeat (first | (with_reducible first | exact G_ | apply IsS61.alloc | apply IsS61.drewN | apply IsS61.drew | apply IsS61.set_1 | apply IsS61.set_2) | exact G_)) : p := h g

/-! ### laws_roll: function 18 -/
def laws_roll.l0 : Nat → List Int → Int → List Int → Int → Int → Option (List Int × Int × Int)
 | 0, _, _, _, _, _ => none
 | k + 1, x0, x6, x517000, x517001, x517002 => if x6 < (x0.length : Int) then (if 0 ≤ x6 then (laws_roll.l0 k x0 (wrap64 (x6 + 1)) x517000 x517001 (IntKind.u64.wrap ((IntKind.u64.wrap ((IntKind.u64.wrap (x517002 * 1099511628211)) + (IntKind.u64.wrap (rd x0 x6)))) + 3))) else (none)) else (some (x517000, x517001, x517002))
def laws_roll.f (k : Nat) (l0 : List Int) (a1 : Int) : Option (List Int × Int × Int) := laws_roll.l0 k l0 0 l0 0 (IntKind.u64.wrap ((IntKind.u64.wrap (a1 * 7919)) + (IntKind.u64.wrap ((l0.length : Int)))))
theorem laws_roll.mono_l : ∀ k, (∀ y0 y1 y2 y3 y4, LeO (laws_roll.l0 k y0 y1 y2 y3 y4) (laws_roll.l0 (k + 1) y0 y1 y2 y3 y4))
 | 0 => fun _ _ _ _ _ r h => by simp [laws_roll.l0] at h
 | k + 1 => by
  have ih0 := laws_roll.mono_l k
  ·intro y0 y1 y2 y3 y4
   unfold laws_roll.l0
   with_reducible (repeat' first | exact ih0 _ _ _ _ _ | exact LeO.refl _ | exact LeO.none _ | refine LeO.ite ?_ ?_ | refine LeO.bind ?_ (fun _ => ?_))
theorem laws_roll.mono : ∀ a0 a1 k, LeO (laws_roll.f k a0 a1) (laws_roll.f (k + 1) a0 a1) := by
 intro a0 a1 k
 have ih0 := laws_roll.mono_l k
 unfold laws_roll.f
 with_reducible (repeat' first | exact ih0 _ _ _ _ _ | exact LeO.refl _ | exact LeO.none _ | refine LeO.ite ?_ ?_ | refine LeO.bind ?_ (fun _ => ?_))
def laws_roll.T5 : Bool × List (List Nat × List Nat) := (true, [([], []), ([], []), ([1], [1]), ([2], [2]), ([3], [3]), ([4], [4]), ([], []), ([], []), ([6, 7], [6, 7]), ([8], [8]), ([9], [9]), ([5, 10], [5, 10]), ([11], [11]), ([0, 0, 1, 2, 3, 4, 5, 6, 7, 8, 9, 10, 11, 12], [0]), ([13, 0, 1, 2, 3, 4, 5, 6, 7, 8, 9, 10, 11, 12], [13]), ([14, 12, 0, 1, 2, 3, 4, 5, 6, 7, 8, 9, 10, 11, 12], [12, 14])])
def laws_roll.B5 : List Nat := [0, 0, 2, 6, 14, 30, 0, 0, 192, 448, 960, 2046, 4094, 8191, 16383, 32767]
theorem laws_roll.tab5 : rtab .any (opsOf Tryd.f18 5) = laws_roll.T5 := by kernel_rfl
theorem laws_roll.bits5 : waitsOk laws_roll.T5.2 laws_roll.B5 = true := by kernel_rfl
set_option maxHeartbeats 8000000 in
set_option maxRecDepth 100000 in
theorem laws_roll.calls (k : Nat) (A0 : Option Addr) (c0 : Nat) (l0 : List Int) (a1 : Int) (r1 : List Int) (r2 : Int) (r3 : Int) (w0 w : World) (hB : Below w0.heap.size w0 w) (hr0 : Kd.C (Kd.int .u8) w0 A0 l0.length l0) (hc0 : l0.length ≤ c0) (h : laws_roll.f k l0 a1 = some (r1, r2, r3)) :
  Calls Tryd.prog 18 #[.slice A0 l0.length c0, .int .u64 a1] w fun e w' => ∃ g_ : Nat, e = .returned (.pointer (some ⟨g_, 0, none⟩)) ∧ IsS61 w0 w' g_ r1 r2 r3 ∧ Below w0.heap.size w0 w' ∧ Below w.heap.size w w' := by
 have hu61 := Tryd.underlying61
 have HR0 := Aside0.mk hr0
 have HC0 := Aside0.mk hc0
 clear hr0 hc0
 have HBW := a0_ (Below.refl w.heap.size w)
 have HW0 := Aside0.mk hB.size
 have HB := Aside0.mk hB
 clear hB
 have H := h
 clear h
 unfold laws_roll.f at H
 have H' := Aside0.mk H
 clear H
 go_enter Tryd.func18, Tryd.ntmps18
 go_wp2_with (first | ((with_reducible refine gate_dst (N := 15) rfl ?_); refine bx_ (N := 15) (cs := #[.slice A0 l0.length c0, .int .i64 0, .int .u64 (IntKind.u64.wrap ((IntKind.u64.wrap (a1 * 7919)) + (IntKind.u64.wrap ((l0.length : Int)))))]) (t := 61) ?_; intro gb516 hg w3 hbox hb; replace HB := a0_ (below_step (bl0_) hb); have BK516 := a0_ (hbox); have GW516 := a0_ ((by rw [hg]; exact (below_size (by repeat (first | (with_reducible first | exact HBW.out | apply below_alloc | apply pw_below_drewN | apply below_drew1) | exact HBW.out))) : w.heap.size ≤ gb516)); have GE516 := a0_ ((Nat.le_trans HW0.out (by rw [hg]; exact (below_size (by repeat (first | (with_reducible first | exact HBW.out | apply below_alloc | apply pw_below_drewN | apply below_drew1) | exact HBW.out))) : w.heap.size ≤ gb516) : w0.heap.size ≤ gb516)); replace HBW := a0_ (below_step HBW.out hb); clear hb hbox hg))
 go_loopg [6] k (fun kq v6 w' => ∃ (x6_1 : Int) (x517002_1 : Int), v6 = .int .i64 x6_1 ∧ Aside0 (laws_roll.l0 kq l0 x6_1 l0 0 x517002_1 = some (r1, r2, r3)) ∧ Aside0 (kq ≤ k) ∧ Aside0 (w'.heap[gb516]? = some (.cells #[(.slice A0 l0.length c0), .int .i64 0, .int .u64 x517002_1] 61 (0, 0))) ∧ Aside0 (Below w0.heap.size w0 w') ∧ Aside0 (Below w.heap.size w w'))
 case atStart => exact ⟨(0), (IntKind.u64.wrap ((IntKind.u64.wrap (a1 * 7919)) + (IntKind.u64.wrap ((l0.length : Int))))), rs_, H', ⟨Nat.le_refl _⟩, ⟨bk_ BK516.out⟩, ⟨bl1_ GE516.out⟩, ⟨by repeat (first | (with_reducible first | exact HBW.out | apply below_alloc | apply pw_below_drewN | apply below_drew1 | refine below_set ?_ GW516.out) | exact HBW.out)⟩⟩
 case round =>
  clear H'
  try clear c1
  try clear p2
  obtain ⟨x6_1, x517002_1, rfl, HA, HK1, BK516, HB, HBW⟩ := hrel
  cases gk with
  | zero => exact absurd HA.out (by simp [laws_roll.l0])
  | succ k1 =>
   have H := HA.out
   clear HA
   simp only [laws_roll.l0] at H
   by_cases c4 : x6_1 < (l0.length : Int)
   ·rw [if_pos c4] at H
    have c4b0 : decide (x6_1 < (l0.length : Int)) = true := decide_eq_true c4
    clear c4
    by_cases c5 : 0 ≤ x6_1
    ·rw [if_pos c5] at H
     have c5b0 : decide (0 ≤ x6_1) = true := decide_eq_true c5
     clear c5
     have H' := Aside0.mk H
     clear H
     try go_wp2
     have n0_ := a0_ (blk_drew BK516.out)
     have n1_ := a0_ (below_drew1 HB.out)
     replace HBW := a0_ (below_drew1 HBW.out)
     clear BK516
     clear HB
     have BK516 := n0_
     have HB := n1_
     clear n0_ n1_
     have p517 : 0 ≤ (x6_1 : Int) := od_
     have q517 : x6_1 < (l0.length : Int) := od_
     obtain ⟨ad517, e517, hx517_0⟩ := Kd.at_int HR0.out x6_1 p517 q517
     have hw517_0 := hx517_0
     cases e517
     replace hx517_0 := pw_cell_below HB.out hx517_0
     replace p517 := eq_true p517
     replace q517 := eq_true q517
     refine start_ (n := 16) (S := fun w' => w'.cell? ⟨gb516, 0, none⟩ = some (.slice (some ad517) l0.length c0) ∧ w'.cell? ⟨gb516, 1, none⟩ = some (.int .i64 0) ∧ w'.cell? ⟨gb516, 2, none⟩ = some (.int .u64 x517002_1) ∧ w'.cell? (ad517.add (x6_1).toNat) = some (.int .u8 (rd l0 x6_1))) (ds := [15]) (mk_ 0 16) kr_ rfl rfl ⟨(blk_cell BK516.out 0).trans rfl, (blk_cell BK516.out 1).trans rfl, (blk_cell BK516.out 2).trans rfl, ((HB.out.cell (World.block_lt_of_cell? w0 _ hw517_0)).trans hw517_0)⟩ (fun hHeld => ?_); refine with_tabW laws_roll.tab5 laws_roll.bits5 (fun HT_ HW_ => ?_)
     generalize wr.drew = w6 at BK516 HB HBW hx517_0 hHeld ⊢
     refine pu_ 0 (some 22) (mk_ 1 15) HT_ ?_
     refine pu_ 1 (some 23) (mk_ 2 14) HT_ ?_
     refine pu_ 2 (some 24) (mk_ 3 13) HT_ ?_
     refine pu_ 3 (some 25) (mk_ 4 12) HT_ ?_
     refine pu_ 6 (some 28) #[true, true, true, true, false, false, true, false, false, false, false, false, false, false, false, false] HT_ ?_
     refine pu_ 7 (some 29) #[true, true, true, true, false, false, true, true, false, false, false, false, false, false, false, false] HT_ ?_
     refine pu_ 8 (some 30) #[true, true, true, true, false, false, true, true, true, false, false, false, false, false, false, false] HT_ ?_
     refine tk_ 4 (some 26) #[true, true, true, true, true, false, true, true, true, false, false, false, false, false, false, false] HT_ HW_ hHeld (hy := .inl ⟨by rfl, by rintro w' ⟨s0, s1, s2, s3⟩; go_simp; with_reducible rfl⟩) ?_
     refine pu_ 5 (some 27) (mk_ 9 7) HT_ ?_
     refine tk_ 9 (some 31) (mk_ 10 6) HT_ HW_ hHeld (hy := .inl ⟨by rfl, by rintro w' ⟨s0, s1, s2, s3⟩; go_simp; with_reducible rfl⟩) ?_
     refine pu_ 10 (some 32) (mk_ 11 5) HT_ ?_
     refine pu_ 11 (some 33) (mk_ 12 4) HT_ ?_
     refine pu_ 12 (some 34) (mk_ 13 3) HT_ ?_
     refine pu_ 13 (some 35) (mk_ 14 2) HT_ ?_
     refine pu_ 14 (some 36) (mk_ 15 1) HT_ ?_
     refine last_ (i := 15) (N := none) (mk_ 16 0) rfl rfl (one_of HT_.out kr_) (by decide) (fun K hK => ?_)
     have hs7 : w6.cell? ⟨gb516, 2, none⟩ = some (.int .u64 x517002_1) := (blk_cell BK516.out 2).trans rfl
     have hfs7 := blk_frozen BK516.out 2
     refine skip_ (w1 := ?_) (by rfl) rfl ?_ ?_
     rotate_left
     ·go_simp
      rfl
     refine hK.out _ _ ?_
     clear hK K
     refine done_ (done_of HT_.out kr_) ?_
     try go_wp2
     go_roundg k1
     case measure => have := HK1.out; omega
     case rel => exact ⟨(wrap64 (x6_1 + 1)), (IntKind.u64.wrap ((IntKind.u64.wrap ((IntKind.u64.wrap (x517002_1 * 1099511628211)) + (IntKind.u64.wrap (rd l0 x6_1)))) + 3)), rs_, H', ⟨by have := HK1.out; omega⟩, ⟨by (with_reducible repeat (first | refine blk_drewN ?_ _ | refine blk_drew ?_ | refine blk_alloc ?_ _)); refine blk_put (cs := #[.slice (some ad517) l0.length c0, .int .i64 0, .int .u64 x517002_1]) ?_ 2 _ rfl; (with_reducible repeat (first | refine blk_drewN ?_ _ | refine blk_drew ?_ | refine blk_alloc ?_ _)); exact BK516.out⟩, ⟨bl1_ GE516.out⟩, ⟨by repeat (first | (with_reducible first | exact HBW.out | apply below_alloc | apply pw_below_drewN | apply below_drew1 | refine below_set ?_ GW516.out) | exact HBW.out)⟩⟩
    ·rw [if_neg c5] at H
     exact absurd H (by simp)
   ·rw [if_neg c4] at H
    have c4b0 : decide (x6_1 < (l0.length : Int)) = false := decide_eq_false c4
    clear c4
    simp only [Option.some.injEq, Prod.mk.injEq] at H
    obtain ⟨rfl, rfl, rfl⟩ := H
    go_wp2
    go_ret
    exact ⟨_, rfl, (show IsS61 w0 _ gb516 l0 0 x517002_1 from ⟨_, _, bk_ BK516.out, GE516.out, HR0.out⟩), bl1_ GE516.out, by repeat (first | (with_reducible first | exact HBW.out | apply below_alloc | apply pw_below_drewN | apply below_drew1 | refine below_set ?_ GW516.out) | exact HBW.out)⟩

/-! ### laws_dice_below: function 19 -/
def laws_dice_below.f (s0_0 : List Int) (s0_1 : Int) (s0_2 : Int) (a1 : Int) : Option (Int × Int × Int) := if s0_1 < (s0_0.length : Int) then (if 0 ≤ s0_1 then (if a1 = 0 then (none) else (some (Int.tmod (wrap64 ((wrap64 (Go.bits .and .u64 ((IntKind.u64.wrap ((IntKind.u64.wrap (s0_2 * 6364136223846793005)) + 1442695040888963407)) / 8589934592) 16777215)) + (wrap64 (rd s0_0 s0_1)))) a1, wrap64 (s0_1 + 1), IntKind.u64.wrap ((IntKind.u64.wrap (s0_2 * 6364136223846793005)) + 1442695040888963407)))) else (none)) else (if a1 = 0 then (none) else (some (Int.tmod (wrap64 (Go.bits .and .u64 ((IntKind.u64.wrap ((IntKind.u64.wrap (s0_2 * 6364136223846793005)) + 1442695040888963407)) / 8589934592) 16777215)) a1, s0_1, IntKind.u64.wrap ((IntKind.u64.wrap (s0_2 * 6364136223846793005)) + 1442695040888963407))))
set_option maxHeartbeats 8000000 in
set_option maxRecDepth 100000 in
theorem laws_dice_below.calls (g : Nat) (s0_0 : List Int) (s0_1 : Int) (s0_2 : Int) (a1 : Int) (r1 : Int) (r2 : Int) (r3 : Int) (w0 w : World) (hI : IsS61 w0 w g s0_0 s0_1 s0_2) (hB : Below w0.heap.size w0 w) (h : laws_dice_below.f s0_0 s0_1 s0_2 a1 = some (r1, r2, r3)) :
  Calls Tryd.prog 19 #[.pointer (some ⟨g, 0, none⟩), .int .i64 a1] w fun e w' => e = .returned (.int .i64 r1) ∧ IsS61 w0 w' g s0_0 r2 r3 ∧ Below w0.heap.size w0 w' ∧ KeepBut w w' g none := by
 have HI0 := Aside0.mk hI
 have HK := a0_ (KeepBut.refl w g none)
 have HL := Aside0.mk hB.size
 clear hI
 have HW0 := Aside0.mk hB.size
 have HB := Aside0.mk hB
 clear hB
 have H := h
 clear h
 unfold laws_dice_below.f at H
 by_cases c3 : s0_1 < (s0_0.length : Int)
 ·rw [if_pos c3] at H
  have c3b0 : decide (s0_1 < (s0_0.length : Int)) = true := decide_eq_true c3
  clear c3
  by_cases c4 : 0 ≤ s0_1
  ·rw [if_pos c4] at H
   have c4b0 : decide (0 ≤ s0_1) = true := decide_eq_true c4
   clear c4
   by_cases c5 : a1 = 0
   ·rw [if_pos c5] at H
    exact absurd H (by simp)
   ·rw [if_neg c5] at H
    have c5b0 : (a1 == 0) = false := beq_eq_false_iff_ne.mpr c5
    have c5b1 : (a1 != 0) = true := bne_iff_ne.mpr c5
    simp only [Option.some.injEq, Prod.mk.injEq] at H
    obtain ⟨rfl, rfl, rfl⟩ := H
    obtain ⟨ASz6_0, cSz6_0, HGz6, hgz6, HSz6_0⟩ := HI0.out
    have hcz6_0 := cellS61_0 HGz6
    have hcz6_1 := cellS61_1 HGz6
    have hcz6_2 := cellS61_2 HGz6
    have hfz6_1 := blk_frozen HGz6 1
    have hfz6_2 := blk_frozen HGz6 2
    clear HGz6 hgz6
    have p518 : 0 ≤ (s0_1 : Int) := od_
    have q518 : s0_1 < (s0_0.length : Int) := od_
    obtain ⟨ad518, e518, hx518_0⟩ := Kd.at_int HSz6_0 s0_1 p518 q518
    cases e518
    have hn518_0 : ad518.block ≠ g := Nat.ne_of_lt (Nat.lt_of_lt_of_le (by have := World.block_lt_of_cell? _ _ hx518_0; first | rwa [add_block] at this | exact this) (IsS61.ge HI0.out))
    replace hx518_0 := pw_cell_below HB.out hx518_0
    replace hx518_0 := (cell_far (p := ⟨g, 2, none⟩) (by first | (rw [add_block]; exact hn518_0) | (show (Addr.add _ _).block ≠ _; rw [add_block]; exact hn518_0) | exact hn518_0) (.int .u64 (IntKind.u64.wrap ((IntKind.u64.wrap (s0_2 * 6364136223846793005)) + 1442695040888963407)))).trans hx518_0
    (try have hy518_0 := fun (n_ : Nat) => (show (((w.drewN n_).setCell ⟨g, 2, none⟩ (.int .u64 (IntKind.u64.wrap ((IntKind.u64.wrap (s0_2 * 6364136223846793005)) + 1442695040888963407))))).cell? _ = some _ from hx518_0))
    clear hn518_0
    replace p518 := eq_true p518
    replace q518 := eq_true q518
    go_enter Tryd.func19, Tryd.ntmps19
    go_wp2
    repeat (go_quiet (fail); try go_wp2)
    go_ret
    exact ⟨er_, is61_ HI0.out, by repeat (first | (with_reducible first | exact HB.out | apply below_alloc | apply pw_below_drewN | apply below_drew1 | refine below_set ?_ (IsS61.ge HI0.out)) | exact HB.out), kb0_⟩
  ·rw [if_neg c4] at H
   exact absurd H (by simp)
 ·rw [if_neg c3] at H
  have c3b0 : decide (s0_1 < (s0_0.length : Int)) = false := decide_eq_false c3
  clear c3
  by_cases c7 : a1 = 0
  ·rw [if_pos c7] at H
   exact absurd H (by simp)
  ·rw [if_neg c7] at H
   have c7b0 : (a1 == 0) = false := beq_eq_false_iff_ne.mpr c7
   have c7b1 : (a1 != 0) = true := bne_iff_ne.mpr c7
   simp only [Option.some.injEq, Prod.mk.injEq] at H
   obtain ⟨rfl, rfl, rfl⟩ := H
   obtain ⟨ASz8_0, cSz8_0, HGz8, hgz8, HSz8_0⟩ := HI0.out
   have hcz8_0 := cellS61_0 HGz8
   have hcz8_1 := cellS61_1 HGz8
   have hcz8_2 := cellS61_2 HGz8
   have hfz8_1 := blk_frozen HGz8 1
   have hfz8_2 := blk_frozen HGz8 2
   clear HGz8 hgz8
   go_enter Tryd.func19, Tryd.ntmps19
   go_wp2
   repeat (go_quiet (fail); try go_wp2)
   go_ret
   exact ⟨er_, is61_ HI0.out, by repeat (first | (with_reducible first | exact HB.out | apply below_alloc | apply pw_below_drewN | apply below_drew1 | refine below_set ?_ (IsS61.ge HI0.out)) | exact HB.out), kb0_⟩

/-! ### laws_FnNets: function 4 -/
mutual
def laws_FnNets.j0 : Nat → List Int → List (S78) → List Int → Int → List Int → Bool → Option (Bool)
 | 0, _, _, _, _, _, _ => none
 | k + 1, x0, x3, x4, x5, x6, x40 => if x40 = true then (some false) else (if x5 = 0 then (laws_FnNets.l0 k x0 x3 x4 x6 0) else ((impl_IsNet.f k x3).bind fun t534 => (some (!t534))))
def laws_FnNets.l0 : Nat → List Int → List (S78) → List Int → List Int → Int → Option (Bool)
 | 0, _, _, _, _, _ => none
 | k + 1, x0, x3, x4, x6, x8 => if x8 < (x4.length : Int) then (if 0 ≤ x8 then (if x8 < (x6.length : Int) then (if 0 ≤ (rd x6 x8) then (if (rd x6 x8) < (x4.length : Int) then (if (rd x4 (rd x6 x8)) = x8 then (if (rd x6 x8) = x8 then (some false) else (laws_FnNets.l0 k x0 x3 x4 x6 (wrap64 (x8 + 1)))) else (some false)) else (none)) else (none)) else (none)) else (none)) else ((laws_roll.f k x0 3201).bind fun bt538 => ((laws_dice_below.f bt538.1 bt538.2.1 bt538.2.2 8).bind fun bt542 => ((impl_TurnShape.f k x3 bt542.1).bind fun bt545 => (if bt545.2 = 3 then (some true) else (if bt545.2 = 0 then ((impl_IsNet.f k bt545.1).bind fun t549 => (if t549 = true then ((impl_IsPermutation.f k x4).bind fun t550 => (some t550)) else (some false))) else (some false))))))
end
def laws_FnNets.f (k : Nat) (l0 : List Int) : Option (Bool) := (laws_big.f l0).bind fun t519 => (if t519 = true then (some true) else ((spec_DrawOppositeCells.f k l0).bind fun t520 => ((impl_OppositeCells.f k t520).bind fun bt523 => ((spec_OppositeCells.f k t520).bind fun bt527 => (if bt523.2 = bt527.2 then ((laws_likeInts.f k bt523.1 bt527.1).bind fun t531 => (if t531 = true then ((impl_IsNet.f k t520).bind fun t532 => ((spec_IsNet.f k t520).bind fun t533 => (laws_FnNets.j0 k l0 t520 bt523.1 bt523.2 bt527.1 (t532 != t533)))) else (laws_FnNets.j0 k l0 t520 bt523.1 bt523.2 bt527.1 true))) else (laws_FnNets.j0 k l0 t520 bt523.1 bt523.2 bt527.1 true))))))
theorem laws_FnNets.mono_l : ∀ k, (∀ y0 y1 y2 y3 y4 y5, LeO (laws_FnNets.j0 k y0 y1 y2 y3 y4 y5) (laws_FnNets.j0 (k + 1) y0 y1 y2 y3 y4 y5)) ∧ (∀ y0 y1 y2 y3 y4, LeO (laws_FnNets.l0 k y0 y1 y2 y3 y4) (laws_FnNets.l0 (k + 1) y0 y1 y2 y3 y4))
 | 0 => ⟨fun _ _ _ _ _ _ r h => by simp [laws_FnNets.j0] at h, fun _ _ _ _ _ r h => by simp [laws_FnNets.l0] at h⟩
 | k + 1 => by
  obtain ⟨ih0, ih1⟩ := laws_FnNets.mono_l k
  refine ⟨?_, ?_⟩
  ·intro y0 y1 y2 y3 y4 y5
   unfold laws_FnNets.j0
   with_reducible (repeat' first | exact ih0 _ _ _ _ _ _ | exact ih1 _ _ _ _ _ | exact impl_IsNet.mono _ _ | exact impl_IsPermutation.mono _ _ | exact impl_OppositeCells.mono _ _ | exact impl_TurnShape.mono _ _ _ | exact laws_likeInts.mono _ _ _ | exact laws_roll.mono _ _ _ | exact spec_DrawOppositeCells.mono _ _ | exact spec_IsNet.mono _ _ | exact spec_OppositeCells.mono _ _ | exact LeO.refl _ | exact LeO.none _ | refine LeO.ite ?_ ?_ | refine LeO.bind ?_ (fun _ => ?_))
  ·intro y0 y1 y2 y3 y4
   unfold laws_FnNets.l0
   with_reducible (repeat' first | exact ih0 _ _ _ _ _ _ | exact ih1 _ _ _ _ _ | exact impl_IsNet.mono _ _ | exact impl_IsPermutation.mono _ _ | exact impl_OppositeCells.mono _ _ | exact impl_TurnShape.mono _ _ _ | exact laws_likeInts.mono _ _ _ | exact laws_roll.mono _ _ _ | exact spec_DrawOppositeCells.mono _ _ | exact spec_IsNet.mono _ _ | exact spec_OppositeCells.mono _ _ | exact LeO.refl _ | exact LeO.none _ | refine LeO.ite ?_ ?_ | refine LeO.bind ?_ (fun _ => ?_))
theorem laws_FnNets.mono : ∀ a0 k, LeO (laws_FnNets.f k a0) (laws_FnNets.f (k + 1) a0) := by
 intro a0 k
 obtain ⟨ih0, ih1⟩ := laws_FnNets.mono_l k
 unfold laws_FnNets.f
 with_reducible (repeat' first | exact ih0 _ _ _ _ _ _ | exact ih1 _ _ _ _ _ | exact impl_IsNet.mono _ _ | exact impl_IsPermutation.mono _ _ | exact impl_OppositeCells.mono _ _ | exact impl_TurnShape.mono _ _ _ | exact laws_likeInts.mono _ _ _ | exact laws_roll.mono _ _ _ | exact spec_DrawOppositeCells.mono _ _ | exact spec_IsNet.mono _ _ | exact spec_OppositeCells.mono _ _ | exact LeO.refl _ | exact LeO.none _ | refine LeO.ite ?_ ?_ | refine LeO.bind ?_ (fun _ => ?_))
set_option maxHeartbeats 8000000 in
set_option maxRecDepth 100000 in
theorem laws_FnNets.calls (k : Nat) (A0 : Option Addr) (c0 : Nat) (l0 : List Int) (r : Bool) (w : World) (hr0 : Kd.C (Kd.int .u8) w A0 l0.length l0) (hc0 : l0.length ≤ c0) (h : laws_FnNets.f k l0 = some r) (hG : Laid w) :
  Calls Tryd.prog 4 #[.slice A0 l0.length c0] w fun e w' => e = .returned (.bool r) ∧ Below w.heap.size w w' := by
 have HR0 := Aside0.mk hr0
 have HC0 := Aside0.mk hc0
 clear hr0 hc0
 have HB := a0_ (Below.refl w.heap.size w)
 have H := h
 clear h
 unfold laws_FnNets.f at H
 obtain ⟨t519, A2, H⟩ := bs_ H
 by_cases c3 : t519 = true
 ·subst c3
  rw [if_pos rfl] at H
  obtain rfl := Option.some.inj H
  go_enter Tryd.func4, Tryd.ntmps4
  go_wp2_with (first | ((with_reducible refine gate_callee (f := 6) rfl ?_); refine goesL_ (some 12) rfl rfl Tryd.func6 kr_ rfl #[.slice A0 l0.length c0] rfl ta_ ?_; (with_reducible refine (laws_big.calls _ _ l0 true _ ?side1 ?side2 A2.out).mono ?_); (case side1 => exact ca_ HR0.out); (case side2 => exact HC0.out); rintro e w' ⟨rfl, ⟨nd, rfl⟩⟩; refine ⟨_, rfl, ?_⟩))
  go_ret
  exact ⟨er_, bl0_⟩
 ·replace c3 := Bool.eq_false_iff.mpr c3
  subst c3
  rw [if_neg (show ¬ (false = true) by decide)] at H
  obtain ⟨t520, A4, H⟩ := bs_ H
  obtain ⟨⟨t523, t524⟩, A5, H⟩ := bs_ H
  dsimp only at H
  obtain ⟨⟨t527, t528⟩, A6, H⟩ := bs_ H
  dsimp only at H
  have HC7 := Aside0.mk H
  clear H
  go_enter Tryd.func4, Tryd.ntmps4
  go_upto_region 6 with (first | ((with_reducible refine gate_callee (f := 6) rfl ?_); refine goesL_ (some 12) rfl rfl Tryd.func6 kr_ rfl #[.slice A0 l0.length c0] rfl ta_ ?_; (with_reducible refine (laws_big.calls _ _ l0 false _ ?side1 ?side2 A2.out).mono ?_); (case side1 => exact ca_ HR0.out); (case side2 => exact HC0.out); rintro e w' ⟨rfl, ⟨nd, rfl⟩⟩; refine ⟨_, rfl, ?_⟩) | ((with_reducible refine gate_callee (f := 12) rfl ?_); refine goesL_ (some 14) rfl rfl Tryd.func12 kr_ rfl #[.slice A0 l0.length c0] rfl ta_ ?_; (with_reducible refine (spec_DrawOppositeCells.calls k _ _ l0 t520 _ ?side1 ?side2 A4.out).mono ?_); (case side1 => exact ca_ HR0.out); (case side2 => exact HC0.out); rintro e w8 ⟨v521, rfl, ho0, hb⟩; refine ⟨_, rfl, ?_⟩; have HO522 := a0_ (Kd.R_lower ho0 (below_size (bl0_))); replace HB := a0_ (below_step (bl0_) hb); (try clear hb); (try clear hb2); (try clear hk); (try clear hi); (try clear ho0); obtain ⟨Ao9, co9, eo9⟩ := Kd.R_slice HO522.out; subst eo9) | ((with_reducible refine gate_callee (f := 13) rfl ?_); refine goesL_ (some 17) rfl rfl Tryd.func13 kr_ rfl #[.slice Ao9 t520.length co9] rfl ta_ ?_; (with_reducible refine (impl_OppositeCells.calls k _ _ t520 t523 t524 _ ?side1 ?side2 A5.out (Laid.below hG (by repeat (first | exact HB.out | exact Below.refl _ _ | apply below_alloc | apply pw_below_drewN | apply below_drew1)))).mono ?_); (case side1 => exact ca_ (Kd.R_reads' HO522.out).2.2); (case side2 => exact (Kd.R_reads' HO522.out).2.1); rintro e w10 ⟨v525, rfl, ho0, hb⟩; refine ⟨_, rfl, ?_⟩; replace HO522 := a0_ (Kd.R_below (ra_ HO522.out) hb); have HO526 := a0_ (Kd.R_lower ho0 (below_size (bl0_))); replace HB := a0_ (below_step (bl0_) hb); (try clear hb); (try clear hb2); (try clear hk); (try clear hi); (try clear ho0)) | ((with_reducible refine gate_callee (f := 14) rfl ?_); refine goesL_ (some 22) rfl rfl Tryd.func14 kr_ rfl #[.slice Ao9 t520.length co9] rfl ta_ ?_; (with_reducible refine (spec_OppositeCells.calls k _ _ t520 t527 t528 _ ?side1 ?side2 A6.out).mono ?_); (case side1 => exact ca_ (Kd.R_reads' HO522.out).2.2); (case side2 => exact (Kd.R_reads' HO522.out).2.1); rintro e w11 ⟨v529, rfl, ho0, hb⟩; refine ⟨_, rfl, ?_⟩; replace HO522 := a0_ (Kd.R_below (ra_ HO522.out) hb); have HO530 := a0_ (Kd.R_lower (Kd.R_new' ho0 (Kd.R_lt (ra_ HO526.out))) (below_size (bl0_))); replace HO526 := a0_ (Kd.R_elder' (ra_ HO526.out) (Kd.R_base ho0) hb); replace HB := a0_ (below_step (bl0_) hb); (try clear hb); (try clear hb2); (try clear hk); (try clear hi); (try clear ho0)))
  (try simp only [Act.put, List.setIfInBounds_toArray, List.set_cons_zero, List.set_cons_succ])
  go_cut [40] (fun v40 wc => ∃ (kq : Nat) (x40_6 : Bool), v40 = .bool x40_6 ∧ Aside0 (laws_FnNets.j0 kq l0 t520 t523 t524 t527 x40_6 = some r) ∧ Aside0 (kq ≤ k) ∧ Aside0 (Kd.R k78 78 wc w.heap.size (fun _ => True) (.slice Ao9 t520.length co9) t520) ∧ Aside0 (Kd.R (Kd.int .i64) 2 wc w.heap.size (fun k_ => some k_ ≠ (v529 : Value).ownBlock) v525 t523) ∧ Aside0 (Kd.R (Kd.int .i64) 2 wc w.heap.size (fun k_ => some k_ ≠ (v525 : Value).ownBlock) v529 t527) ∧ Aside0 (Below w.heap.size w wc))
  case first =>
   have H := HC7.out
   clear HC7
   by_cases c12 : t524 = t528
   ·rw [if_pos c12] at H
    have c12b0 : (t524 == t528) = true := beq_iff_eq.mpr c12
    have c12b1 : (t524 != t528) = false := bne_eq_false_iff_eq.mpr c12
    clear c12
    (first | rw [c12b0] | (simp only [i64_w, i32_w]; rw [c12b0]) | skip)
    obtain ⟨t531, A13, H⟩ := bs_ H
    by_cases c14 : t531 = true
    ·subst c14
     rw [if_pos rfl] at H
     obtain ⟨t532, A15, H⟩ := bs_ H
     obtain ⟨t533, A16, H⟩ := bs_ H
     have H' := Aside0.mk H
     clear H
     obtain ⟨Ao17, co17, eo17⟩ := Kd.R_slice HO526.out
     subst eo17
     obtain ⟨Ao18, co18, eo18⟩ := Kd.R_slice HO530.out
     subst eo18
     go_wp2_with (first | (go_at_call 15; (with_reducible refine (laws_likeInts.calls k _ _ t523 _ _ t527 true _ ?side1 ?side2 ?side3 ?side4 A13.out).mono ?_); (case side1 => exact ca_ (Kd.R_reads' HO526.out).2.2); (case side2 => exact (Kd.R_reads' HO526.out).2.1); (case side3 => exact ca_ (Kd.R_reads' HO530.out).2.2); (case side4 => exact (Kd.R_reads' HO530.out).2.1); rintro e w' ⟨rfl, ⟨nd, rfl⟩⟩) | (go_at_call 16; (with_reducible refine (impl_IsNet.calls k _ _ t520 t532 _ ?side1 ?side2 A15.out (Laid.below hG (by repeat (first | exact HB.out | exact Below.refl _ _ | apply below_alloc | apply pw_below_drewN | apply below_drew1)))).mono ?_); (case side1 => exact ca_ (Kd.R_reads' HO522.out).2.2); (case side2 => exact (Kd.R_reads' HO522.out).2.1); rintro e w19 ⟨rfl, hb⟩; replace HO522 := a0_ (Kd.R_below (ra_ HO522.out) hb); replace HO526 := a0_ (Kd.R_below (ra_ HO526.out) hb); replace HO530 := a0_ (Kd.R_below (ra_ HO530.out) hb); replace HB := a0_ (below_step (bl0_) hb); (try clear hb); (try clear hb2); (try clear hk); (try clear hi)) | (go_at_call 17; (with_reducible refine (spec_IsNet.calls k _ _ t520 t533 _ ?side1 ?side2 A16.out).mono ?_); (case side1 => exact ca_ (Kd.R_reads' HO522.out).2.2); (case side2 => exact (Kd.R_reads' HO522.out).2.1); rintro e w20 ⟨rfl, hb⟩; replace HO522 := a0_ (Kd.R_below (ra_ HO522.out) hb); replace HO526 := a0_ (Kd.R_below (ra_ HO526.out) hb); replace HO530 := a0_ (Kd.R_below (ra_ HO530.out) hb); replace HB := a0_ (below_step (bl0_) hb); (try clear hb); (try clear hb2); (try clear hk); (try clear hi)))
     go_meet
     case rel => exact ⟨_, ((t532 != t533)), rs_, H', ⟨by first | omega | exact Nat.le_refl _⟩, ⟨ra_ HO522.out⟩, ⟨by (with_reducible repeat (first | apply Kd.R_alloc | apply Kd.R_drewN | apply Kd.R_drew)); exact Kd.R_mono HO526.out (fun _ hk => hk.2)⟩, ⟨by (with_reducible repeat (first | apply Kd.R_alloc | apply Kd.R_drewN | apply Kd.R_drew)); exact Kd.R_mono HO530.out (fun _ hk => hk.2)⟩, ⟨bl0_⟩⟩
    ·replace c14 := Bool.eq_false_iff.mpr c14
     subst c14
     rw [if_neg (show ¬ (false = true) by decide)] at H
     have H' := Aside0.mk H
     clear H
     obtain ⟨Ao21, co21, eo21⟩ := Kd.R_slice HO526.out
     subst eo21
     obtain ⟨Ao22, co22, eo22⟩ := Kd.R_slice HO530.out
     subst eo22
     go_wp2_with (first | (go_at_call 15; (with_reducible refine (laws_likeInts.calls k _ _ t523 _ _ t527 false _ ?side1 ?side2 ?side3 ?side4 A13.out).mono ?_); (case side1 => exact ca_ (Kd.R_reads' HO526.out).2.2); (case side2 => exact (Kd.R_reads' HO526.out).2.1); (case side3 => exact ca_ (Kd.R_reads' HO530.out).2.2); (case side4 => exact (Kd.R_reads' HO530.out).2.1); rintro e w' ⟨rfl, ⟨nd, rfl⟩⟩))
     go_meet
     case rel => exact ⟨_, (true), rs_, H', ⟨by first | omega | exact Nat.le_refl _⟩, ⟨ra_ HO522.out⟩, ⟨by (with_reducible repeat (first | apply Kd.R_alloc | apply Kd.R_drewN | apply Kd.R_drew)); exact Kd.R_mono HO526.out (fun _ hk => hk.2)⟩, ⟨by (with_reducible repeat (first | apply Kd.R_alloc | apply Kd.R_drewN | apply Kd.R_drew)); exact Kd.R_mono HO530.out (fun _ hk => hk.2)⟩, ⟨bl0_⟩⟩
   ·rw [if_neg c12] at H
    have c12b0 : (t524 == t528) = false := beq_eq_false_iff_ne.mpr c12
    have c12b1 : (t524 != t528) = true := bne_iff_ne.mpr c12
    (first | rw [c12b0] | (simp only [i64_w, i32_w]; rw [c12b0]) | skip)
    have H' := Aside0.mk H
    clear H
    go_wp2
    go_meet
    case rel => exact ⟨_, (true), rs_, H', ⟨by first | omega | exact Nat.le_refl _⟩, ⟨ra_ HO522.out⟩, ⟨by (with_reducible repeat (first | apply Kd.R_alloc | apply Kd.R_drewN | apply Kd.R_drew)); exact Kd.R_mono HO526.out (fun _ hk => hk.2)⟩, ⟨by (with_reducible repeat (first | apply Kd.R_alloc | apply Kd.R_drewN | apply Kd.R_drew)); exact Kd.R_mono HO530.out (fun _ hk => hk.2)⟩, ⟨bl0_⟩⟩
  case rest =>
   clear HC7
   try clear c1
   try clear p2
   try clear c3
   try clear c4
   try clear c6
   try clear c12
   try clear c12b0
   try clear c12b1
   try clear c13
   try clear c14
   obtain ⟨kq, x40_6, rfl, HA, HJ6, HO_3, HO_4, HO_6, HB⟩ := hcut
   cases kq with
   | zero => exact absurd HA.out (by simp [laws_FnNets.j0])
   | succ kj6 =>
    have H := HA.out
    clear HA
    simp only [laws_FnNets.j0] at H
    by_cases c23 : x40_6 = true
    ·subst c23
     rw [if_pos rfl] at H
     obtain rfl := Option.some.inj H
     go_wp2
     go_ret
     exact ⟨er_, bl0_⟩
    ·replace c23 := Bool.eq_false_iff.mpr c23
     subst c23
     rw [if_neg (show ¬ (false = true) by decide)] at H
     by_cases c24 : t524 = 0
     ·rw [if_pos c24] at H
      have c24b0 : (t524 == 0) = true := beq_iff_eq.mpr c24
      have c24b1 : (t524 != 0) = false := bne_eq_false_iff_eq.mpr c24
      clear c24
      have H' := Aside0.mk H
      clear H
      go_wp2
      go_loopg [8] kj6 (fun kq v8 w' => ∃ (x8_2 : Int), v8 = .int .i64 x8_2 ∧ Aside0 (laws_FnNets.l0 kq l0 t520 t523 t527 x8_2 = some r) ∧ Aside0 (kq ≤ kj6) ∧ Aside0 (Kd.R k78 78 w' w.heap.size (fun _ => True) (.slice Ao9 t520.length co9) t520) ∧ Aside0 (Kd.R (Kd.int .i64) 2 w' w.heap.size (fun k_ => some k_ ≠ (v529 : Value).ownBlock) v525 t523) ∧ Aside0 (Kd.R (Kd.int .i64) 2 w' w.heap.size (fun k_ => some k_ ≠ (v525 : Value).ownBlock) v529 t527) ∧ Aside0 (Below w.heap.size w w'))
      case atStart => exact ⟨(0), rs_, H', ⟨Nat.le_refl _⟩, ⟨ra_ HO_3.out⟩, ⟨ra_ HO_4.out⟩, ⟨ra_ HO_6.out⟩, ⟨bl0_⟩⟩
      case round =>
       clear H'
       try clear c1
       try clear c2
       try clear p2
       try clear c3
       try clear c4
       try clear c6
       try clear c12
       try clear c12b0
       try clear c12b1
       try clear c13
       try clear c14
       try clear c23
       try clear c24
       try clear c24b0
       try clear c24b1
       try clear p2
       obtain ⟨x8_2, rfl, HA, HK2, HO_3, HO_4, HO_6, HB⟩ := hrel
       cases gk with
       | zero => exact absurd HA.out (by simp [laws_FnNets.l0])
       | succ k2 =>
        have H := HA.out
        clear HA
        simp only [laws_FnNets.l0] at H
        by_cases c25 : x8_2 < (t523.length : Int)
        ·rw [if_pos c25] at H
         have c25b0 : decide (x8_2 < (t523.length : Int)) = true := decide_eq_true c25
         clear c25
         by_cases c26 : 0 ≤ x8_2
         ·rw [if_pos c26] at H
          have c26b0 : decide (0 ≤ x8_2) = true := decide_eq_true c26
          clear c26
          by_cases c27 : x8_2 < (t527.length : Int)
          ·rw [if_pos c27] at H
           have c27b0 : decide (x8_2 < (t527.length : Int)) = true := decide_eq_true c27
           clear c27
           by_cases c28 : 0 ≤ (rd t527 x8_2)
           ·rw [if_pos c28] at H
            have c28b0 : decide (0 ≤ (rd t527 x8_2)) = true := decide_eq_true c28
            clear c28
            by_cases c29 : (rd t527 x8_2) < (t523.length : Int)
            ·rw [if_pos c29] at H
             have c29b0 : decide ((rd t527 x8_2) < (t523.length : Int)) = true := decide_eq_true c29
             clear c29
             by_cases c30 : (rd t523 (rd t527 x8_2)) = x8_2
             ·rw [if_pos c30] at H
              have c30b0 : ((rd t523 (rd t527 x8_2)) == x8_2) = true := beq_iff_eq.mpr c30
              have c30b1 : ((rd t523 (rd t527 x8_2)) != x8_2) = false := bne_eq_false_iff_eq.mpr c30
              clear c30
              by_cases c31 : (rd t527 x8_2) = x8_2
              ·rw [if_pos c31] at H
               have c31b0 : ((rd t527 x8_2) == x8_2) = true := beq_iff_eq.mpr c31
               have c31b1 : ((rd t527 x8_2) != x8_2) = false := bne_eq_false_iff_eq.mpr c31
               clear c31
               obtain rfl := Option.some.inj H
               obtain ⟨Ao32, co32, eo32⟩ := Kd.R_slice HO_4.out
               subst eo32
               obtain ⟨Ao33, co33, eo33⟩ := Kd.R_slice HO_6.out
               subst eo33
               have p535 : 0 ≤ (x8_2 : Int) := od_
               have q535 : x8_2 < (t527.length : Int) := od_
               obtain ⟨ad535, e535, hx535_0⟩ := Kd.at_int (Kd.R_reads' HO_6.out).2.2 x8_2 p535 q535
               cases e535
               replace p535 := eq_true p535
               replace q535 := eq_true q535
               have p536 : 0 ≤ ((rd t527 x8_2) : Int) := od_
               have q536 : (rd t527 x8_2) < (t523.length : Int) := od_
               obtain ⟨ad536, e536, hx536_0⟩ := Kd.at_int (Kd.R_reads' HO_4.out).2.2 (rd t527 x8_2) p536 q536
               cases e536
               replace p536 := eq_true p536
               replace q536 := eq_true q536
               have p537 : 0 ≤ (x8_2 : Int) := od_
               have q537 : x8_2 < (t527.length : Int) := od_
               obtain ⟨ad537, e537, hx537_0⟩ := Kd.at_int (Kd.R_reads' HO_6.out).2.2 x8_2 p537 q537
               obtain rfl : ad535 = ad537 := (by injection e537)
               replace p537 := eq_true p537
               replace q537 := eq_true q537
               go_wp2
               go_ret
               exact ⟨er_, bl0_⟩
              ·rw [if_neg c31] at H
               have c31b0 : ((rd t527 x8_2) == x8_2) = false := beq_eq_false_iff_ne.mpr c31
               have c31b1 : ((rd t527 x8_2) != x8_2) = true := bne_iff_ne.mpr c31
               have H' := Aside0.mk H
               clear H
               obtain ⟨Ao34, co34, eo34⟩ := Kd.R_slice HO_4.out
               subst eo34
               obtain ⟨Ao35, co35, eo35⟩ := Kd.R_slice HO_6.out
               subst eo35
               have p535 : 0 ≤ (x8_2 : Int) := od_
               have q535 : x8_2 < (t527.length : Int) := od_
               obtain ⟨ad535, e535, hx535_0⟩ := Kd.at_int (Kd.R_reads' HO_6.out).2.2 x8_2 p535 q535
               cases e535
               replace p535 := eq_true p535
               replace q535 := eq_true q535
               have p536 : 0 ≤ ((rd t527 x8_2) : Int) := od_
               have q536 : (rd t527 x8_2) < (t523.length : Int) := od_
               obtain ⟨ad536, e536, hx536_0⟩ := Kd.at_int (Kd.R_reads' HO_4.out).2.2 (rd t527 x8_2) p536 q536
               cases e536
               replace p536 := eq_true p536
               replace q536 := eq_true q536
               have p537 : 0 ≤ (x8_2 : Int) := od_
               have q537 : x8_2 < (t527.length : Int) := od_
               obtain ⟨ad537, e537, hx537_0⟩ := Kd.at_int (Kd.R_reads' HO_6.out).2.2 x8_2 p537 q537
               obtain rfl : ad535 = ad537 := (by injection e537)
               replace p537 := eq_true p537
               replace q537 := eq_true q537
               go_wp2
               go_roundg k2
               case measure => have := HJ6.out; have := HK2.out; omega
               case rel => exact ⟨(wrap64 (x8_2 + 1)), rs_, H', ⟨by have := HJ6.out; have := HK2.out; omega⟩, ⟨ra_ HO_3.out⟩, ⟨ra_ HO_4.out⟩, ⟨ra_ HO_6.out⟩, ⟨bl0_⟩⟩
             ·rw [if_neg c30] at H
              have c30b0 : ((rd t523 (rd t527 x8_2)) == x8_2) = false := beq_eq_false_iff_ne.mpr c30
              have c30b1 : ((rd t523 (rd t527 x8_2)) != x8_2) = true := bne_iff_ne.mpr c30
              obtain rfl := Option.some.inj H
              obtain ⟨Ao36, co36, eo36⟩ := Kd.R_slice HO_4.out
              subst eo36
              obtain ⟨Ao37, co37, eo37⟩ := Kd.R_slice HO_6.out
              subst eo37
              have p535 : 0 ≤ (x8_2 : Int) := od_
              have q535 : x8_2 < (t527.length : Int) := od_
              obtain ⟨ad535, e535, hx535_0⟩ := Kd.at_int (Kd.R_reads' HO_6.out).2.2 x8_2 p535 q535
              cases e535
              replace p535 := eq_true p535
              replace q535 := eq_true q535
              have p536 : 0 ≤ ((rd t527 x8_2) : Int) := od_
              have q536 : (rd t527 x8_2) < (t523.length : Int) := od_
              obtain ⟨ad536, e536, hx536_0⟩ := Kd.at_int (Kd.R_reads' HO_4.out).2.2 (rd t527 x8_2) p536 q536
              cases e536
              replace p536 := eq_true p536
              replace q536 := eq_true q536
              go_wp2
              go_ret
              exact ⟨er_, bl0_⟩
            ·rw [if_neg c29] at H
             exact absurd H (by simp)
           ·rw [if_neg c28] at H
            exact absurd H (by simp)
          ·rw [if_neg c27] at H
           exact absurd H (by simp)
         ·rw [if_neg c26] at H
          exact absurd H (by simp)
        ·rw [if_neg c25] at H
         have c25b0 : decide (x8_2 < (t523.length : Int)) = false := decide_eq_false c25
         clear c25
         obtain ⟨⟨t538, t539, t540⟩, A38, H⟩ := bs_ H
         dsimp only at H
         obtain ⟨⟨t542, t543, t544⟩, A39, H⟩ := bs_ H
         dsimp only at H
         obtain ⟨⟨t545, t546⟩, A40, H⟩ := bs_ H
         dsimp only at H
         by_cases c41 : t546 = 3
         ·rw [if_pos c41] at H
          have c41b0 : (t546 == 3) = true := beq_iff_eq.mpr c41
          have c41b1 : (t546 != 3) = false := bne_eq_false_iff_eq.mpr c41
          clear c41
          obtain rfl := Option.some.inj H
          obtain ⟨Ao42, co42, eo42⟩ := Kd.R_slice HO_4.out
          subst eo42
          go_wp2_with (first | ((with_reducible refine gate_callee (f := 18) rfl ?_); refine goesL_ (some 72) rfl rfl Tryd.func18 kr_ rfl #[.slice A0 l0.length c0, .int .u64 3201] rfl ta_ ?_; (with_reducible refine (laws_roll.calls k2 _ _ l0 3201 t538 t539 t540 w _ ?side1 ?side2 ?side3 A38.out).mono ?_); (case side1 => repeat (first | (with_reducible first | exact HB.out | apply below_alloc | apply pw_below_drewN | apply below_drew1) | exact HB.out)); (case side2 => exact HR0.out); (case side3 => exact HC0.out); rintro e w43 ⟨g541, rfl, hi, hb, hb2⟩; refine ⟨_, rfl, ?_⟩; replace HO_3 := a0_ (Kd.R_below (ra_ HO_3.out) hb2); replace HO_4 := a0_ (Kd.R_below (ra_ HO_4.out) hb2); replace HO_6 := a0_ (Kd.R_below (ra_ HO_6.out) hb2); replace HB := a0_ (hb); have HI541 := a0_ (hi); (try clear hb); (try clear hb2); (try clear hk); (try clear hi)) | ((with_reducible refine gate_callee (f := 19) rfl ?_); refine goesL_ (some 73) rfl rfl Tryd.func19 kr_ rfl #[.pointer (some ⟨g541, 0, none⟩), .int .i64 8] rfl ta_ ?_; (with_reducible refine (laws_dice_below.calls g541 t538 t539 t540 8 t542 t543 t544 w _ ?side1 ?side2 A39.out).mono ?_); (case side1 => exact is61_ HI541.out); (case side2 => repeat (first | (with_reducible first | exact HB.out | apply below_alloc | apply pw_below_drewN | apply below_drew1 | refine below_set ?_ (IsS61.ge HI541.out)) | exact HB.out)); rintro e w44 ⟨rfl, hi, hb, hk⟩; refine ⟨_, rfl, ?_⟩; replace HO_3 := a0_ (Kd.R_mono (Kd.R_keep (IsS61.apart (show IsS61 w _ g541 t538 t539 t540 from is61_ HI541.out) (ra_ HO_3.out) (by decide)) hk (fun _ h => h.2)) (fun _ h => h.1)); replace HO_4 := a0_ (Kd.R_mono (Kd.R_keep (IsS61.apart (show IsS61 w _ g541 t538 t539 t540 from is61_ HI541.out) (ra_ HO_4.out) (by decide)) hk (fun _ h => h.2)) (fun _ h => h.1)); replace HO_6 := a0_ (Kd.R_mono (Kd.R_keep (IsS61.apart (show IsS61 w _ g541 t538 t539 t540 from is61_ HI541.out) (ra_ HO_6.out) (by decide)) hk (fun _ h => h.2)) (fun _ h => h.1)); replace HB := a0_ (hb); replace HI541 := a0_ (hi); (try clear hb); (try clear hb2); (try clear hk); (try clear hi)) | ((with_reducible refine gate_callee (f := 11) rfl ?_); refine goesL_ (some 74) rfl rfl Tryd.func11 kr_ rfl #[.slice Ao9 t520.length co9, .int .i64 t542] rfl ta_ ?_; (with_reducible refine (impl_TurnShape.calls k2 _ _ t520 t542 t545 t546 _ ?side1 ?side2 A40.out).mono ?_); (case side1 => exact ca_ (Kd.R_reads' HO_3.out).2.2); (case side2 => exact (Kd.R_reads' HO_3.out).2.1); rintro e w45 ⟨v547, rfl, ho0, hb⟩; refine ⟨_, rfl, ?_⟩; replace HO_4 := a0_ (Kd.R_below (ra_ HO_4.out) hb); replace HO_6 := a0_ (Kd.R_below (ra_ HO_6.out) hb); have HO548 := a0_ (Kd.R_lower (Kd.R_new' ho0 (Kd.R_lt (ra_ HO_3.out))) (below_size (by repeat (first | (with_reducible first | exact HB.out | apply below_alloc | apply pw_below_drewN | apply below_drew1 | refine below_set ?_ (IsS61.ge HI541.out)) | exact HB.out)))); replace HO_3 := a0_ (Kd.R_elder' (ra_ HO_3.out) (Kd.R_base ho0) hb); replace HB := a0_ (below_step (by repeat (first | (with_reducible first | exact HB.out | apply below_alloc | apply pw_below_drewN | apply below_drew1 | refine below_set ?_ (IsS61.ge HI541.out)) | exact HB.out)) hb); replace HI541 := a0_ (IsS61.below (is61_ HI541.out) hb); (try clear hb); (try clear hb2); (try clear hk); (try clear hi); (try clear ho0)))
          go_ret
          exact ⟨er_, by repeat (first | (with_reducible first | exact HB.out | apply below_alloc | apply pw_below_drewN | apply below_drew1 | refine below_set ?_ (IsS61.ge HI541.out)) | exact HB.out)⟩
         ·rw [if_neg c41] at H
          have c41b0 : (t546 == 3) = false := beq_eq_false_iff_ne.mpr c41
          have c41b1 : (t546 != 3) = true := bne_iff_ne.mpr c41
          by_cases c46 : t546 = 0
          ·rw [if_pos c46] at H
           have c46b0 : (t546 == 0) = true := beq_iff_eq.mpr c46
           have c46b1 : (t546 != 0) = false := bne_eq_false_iff_eq.mpr c46
           clear c46
           obtain ⟨t549, A47, H⟩ := bs_ H
           by_cases c48 : t549 = true
           ·subst c48
            rw [if_pos rfl] at H
            obtain ⟨t550, A49, H⟩ := bs_ H
            obtain rfl := Option.some.inj H
            obtain ⟨Ao50, co50, eo50⟩ := Kd.R_slice HO_4.out
            subst eo50
            go_wp2_with (first | ((with_reducible refine gate_callee (f := 18) rfl ?_); refine goesL_ (some 72) rfl rfl Tryd.func18 kr_ rfl #[.slice A0 l0.length c0, .int .u64 3201] rfl ta_ ?_; (with_reducible refine (laws_roll.calls k2 _ _ l0 3201 t538 t539 t540 w _ ?side1 ?side2 ?side3 A38.out).mono ?_); (case side1 => repeat (first | (with_reducible first | exact HB.out | apply below_alloc | apply pw_below_drewN | apply below_drew1) | exact HB.out)); (case side2 => exact HR0.out); (case side3 => exact HC0.out); rintro e w51 ⟨g541, rfl, hi, hb, hb2⟩; refine ⟨_, rfl, ?_⟩; replace HO_3 := a0_ (Kd.R_below (ra_ HO_3.out) hb2); replace HO_4 := a0_ (Kd.R_below (ra_ HO_4.out) hb2); replace HO_6 := a0_ (Kd.R_below (ra_ HO_6.out) hb2); replace HB := a0_ (hb); have HI541 := a0_ (hi); (try clear hb); (try clear hb2); (try clear hk); (try clear hi)) | ((with_reducible refine gate_callee (f := 19) rfl ?_); refine goesL_ (some 73) rfl rfl Tryd.func19 kr_ rfl #[.pointer (some ⟨g541, 0, none⟩), .int .i64 8] rfl ta_ ?_; (with_reducible refine (laws_dice_below.calls g541 t538 t539 t540 8 t542 t543 t544 w _ ?side1 ?side2 A39.out).mono ?_); (case side1 => exact is61_ HI541.out); (case side2 => repeat (first | (with_reducible first | exact HB.out | apply below_alloc | apply pw_below_drewN | apply below_drew1 | refine below_set ?_ (IsS61.ge HI541.out)) | exact HB.out)); rintro e w52 ⟨rfl, hi, hb, hk⟩; refine ⟨_, rfl, ?_⟩; replace HO_3 := a0_ (Kd.R_mono (Kd.R_keep (IsS61.apart (show IsS61 w _ g541 t538 t539 t540 from is61_ HI541.out) (ra_ HO_3.out) (by decide)) hk (fun _ h => h.2)) (fun _ h => h.1)); replace HO_4 := a0_ (Kd.R_mono (Kd.R_keep (IsS61.apart (show IsS61 w _ g541 t538 t539 t540 from is61_ HI541.out) (ra_ HO_4.out) (by decide)) hk (fun _ h => h.2)) (fun _ h => h.1)); replace HO_6 := a0_ (Kd.R_mono (Kd.R_keep (IsS61.apart (show IsS61 w _ g541 t538 t539 t540 from is61_ HI541.out) (ra_ HO_6.out) (by decide)) hk (fun _ h => h.2)) (fun _ h => h.1)); replace HB := a0_ (hb); replace HI541 := a0_ (hi); (try clear hb); (try clear hb2); (try clear hk); (try clear hi)) | ((with_reducible refine gate_callee (f := 11) rfl ?_); refine goesL_ (some 74) rfl rfl Tryd.func11 kr_ rfl #[.slice Ao9 t520.length co9, .int .i64 t542] rfl ta_ ?_; (with_reducible refine (impl_TurnShape.calls k2 _ _ t520 t542 t545 t546 _ ?side1 ?side2 A40.out).mono ?_); (case side1 => exact ca_ (Kd.R_reads' HO_3.out).2.2); (case side2 => exact (Kd.R_reads' HO_3.out).2.1); rintro e w53 ⟨v547, rfl, ho0, hb⟩; refine ⟨_, rfl, ?_⟩; replace HO_4 := a0_ (Kd.R_below (ra_ HO_4.out) hb); replace HO_6 := a0_ (Kd.R_below (ra_ HO_6.out) hb); have HO548 := a0_ (Kd.R_lower (Kd.R_new' ho0 (Kd.R_lt (ra_ HO_3.out))) (below_size (by repeat (first | (with_reducible first | exact HB.out | apply below_alloc | apply pw_below_drewN | apply below_drew1 | refine below_set ?_ (IsS61.ge HI541.out)) | exact HB.out)))); replace HO_3 := a0_ (Kd.R_elder' (ra_ HO_3.out) (Kd.R_base ho0) hb); replace HB := a0_ (below_step (by repeat (first | (with_reducible first | exact HB.out | apply below_alloc | apply pw_below_drewN | apply below_drew1 | refine below_set ?_ (IsS61.ge HI541.out)) | exact HB.out)) hb); replace HI541 := a0_ (IsS61.below (is61_ HI541.out) hb); (try clear hb); (try clear hb2); (try clear hk); (try clear hi); (try clear ho0); obtain ⟨Ao54, co54, eo54⟩ := Kd.R_slice HO548.out; subst eo54) | (go_at_call 16; (with_reducible refine (impl_IsNet.calls k2 _ _ t545 true _ ?side1 ?side2 A47.out (Laid.below hG (by repeat (first | exact HB.out | exact Below.refl _ _ | apply below_alloc | apply pw_below_drewN | apply below_drew1)))).mono ?_); (case side1 => exact ca_ (Kd.R_reads' HO548.out).2.2); (case side2 => exact (Kd.R_reads' HO548.out).2.1); rintro e w55 ⟨rfl, hb⟩; replace HO_3 := a0_ (Kd.R_below (ra_ HO_3.out) hb); replace HO_4 := a0_ (Kd.R_below (ra_ HO_4.out) hb); replace HO_6 := a0_ (Kd.R_below (ra_ HO_6.out) hb); replace HO548 := a0_ (Kd.R_below (ra_ HO548.out) hb); replace HB := a0_ (below_step (by repeat (first | (with_reducible first | exact HB.out | apply below_alloc | apply pw_below_drewN | apply below_drew1 | refine below_set ?_ (IsS61.ge HI541.out)) | exact HB.out)) hb); replace HI541 := a0_ (IsS61.below (is61_ HI541.out) hb); (try clear hb); (try clear hb2); (try clear hk); (try clear hi)) | (go_at_call 20; (with_reducible refine (impl_IsPermutation.calls k2 _ _ t523 t550 _ ?side1 ?side2 A49.out).mono ?_); (case side1 => exact ca_ (Kd.R_reads' HO_4.out).2.2); (case side2 => exact (Kd.R_reads' HO_4.out).2.1); rintro e w56 ⟨rfl, hb⟩; replace HO_3 := a0_ (Kd.R_below (ra_ HO_3.out) hb); replace HO_4 := a0_ (Kd.R_below (ra_ HO_4.out) hb); replace HO_6 := a0_ (Kd.R_below (ra_ HO_6.out) hb); replace HO548 := a0_ (Kd.R_below (ra_ HO548.out) hb); replace HB := a0_ (below_step (by repeat (first | (with_reducible first | exact HB.out | apply below_alloc | apply pw_below_drewN | apply below_drew1 | refine below_set ?_ (IsS61.ge HI541.out)) | exact HB.out)) hb); replace HI541 := a0_ (IsS61.below (is61_ HI541.out) hb); (try clear hb); (try clear hb2); (try clear hk); (try clear hi)))
            go_ret
            exact ⟨er_, by repeat (first | (with_reducible first | exact HB.out | apply below_alloc | apply pw_below_drewN | apply below_drew1 | refine below_set ?_ (IsS61.ge HI541.out)) | exact HB.out)⟩
           ·replace c48 := Bool.eq_false_iff.mpr c48
            subst c48
            rw [if_neg (show ¬ (false = true) by decide)] at H
            obtain rfl := Option.some.inj H
            obtain ⟨Ao57, co57, eo57⟩ := Kd.R_slice HO_4.out
            subst eo57
            go_wp2_with (first | ((with_reducible refine gate_callee (f := 18) rfl ?_); refine goesL_ (some 72) rfl rfl Tryd.func18 kr_ rfl #[.slice A0 l0.length c0, .int .u64 3201] rfl ta_ ?_; (with_reducible refine (laws_roll.calls k2 _ _ l0 3201 t538 t539 t540 w _ ?side1 ?side2 ?side3 A38.out).mono ?_); (case side1 => repeat (first | (with_reducible first | exact HB.out | apply below_alloc | apply pw_below_drewN | apply below_drew1) | exact HB.out)); (case side2 => exact HR0.out); (case side3 => exact HC0.out); rintro e w58 ⟨g541, rfl, hi, hb, hb2⟩; refine ⟨_, rfl, ?_⟩; replace HO_3 := a0_ (Kd.R_below (ra_ HO_3.out) hb2); replace HO_4 := a0_ (Kd.R_below (ra_ HO_4.out) hb2); replace HO_6 := a0_ (Kd.R_below (ra_ HO_6.out) hb2); replace HB := a0_ (hb); have HI541 := a0_ (hi); (try clear hb); (try clear hb2); (try clear hk); (try clear hi)) | ((with_reducible refine gate_callee (f := 19) rfl ?_); refine goesL_ (some 73) rfl rfl Tryd.func19 kr_ rfl #[.pointer (some ⟨g541, 0, none⟩), .int .i64 8] rfl ta_ ?_; (with_reducible refine (laws_dice_below.calls g541 t538 t539 t540 8 t542 t543 t544 w _ ?side1 ?side2 A39.out).mono ?_); (case side1 => exact is61_ HI541.out); (case side2 => repeat (first | (with_reducible first | exact HB.out | apply below_alloc | apply pw_below_drewN | apply below_drew1 | refine below_set ?_ (IsS61.ge HI541.out)) | exact HB.out)); rintro e w59 ⟨rfl, hi, hb, hk⟩; refine ⟨_, rfl, ?_⟩; replace HO_3 := a0_ (Kd.R_mono (Kd.R_keep (IsS61.apart (show IsS61 w _ g541 t538 t539 t540 from is61_ HI541.out) (ra_ HO_3.out) (by decide)) hk (fun _ h => h.2)) (fun _ h => h.1)); replace HO_4 := a0_ (Kd.R_mono (Kd.R_keep (IsS61.apart (show IsS61 w _ g541 t538 t539 t540 from is61_ HI541.out) (ra_ HO_4.out) (by decide)) hk (fun _ h => h.2)) (fun _ h => h.1)); replace HO_6 := a0_ (Kd.R_mono (Kd.R_keep (IsS61.apart (show IsS61 w _ g541 t538 t539 t540 from is61_ HI541.out) (ra_ HO_6.out) (by decide)) hk (fun _ h => h.2)) (fun _ h => h.1)); replace HB := a0_ (hb); replace HI541 := a0_ (hi); (try clear hb); (try clear hb2); (try clear hk); (try clear hi)) | ((with_reducible refine gate_callee (f := 11) rfl ?_); refine goesL_ (some 74) rfl rfl Tryd.func11 kr_ rfl #[.slice Ao9 t520.length co9, .int .i64 t542] rfl ta_ ?_; (with_reducible refine (impl_TurnShape.calls k2 _ _ t520 t542 t545 t546 _ ?side1 ?side2 A40.out).mono ?_); (case side1 => exact ca_ (Kd.R_reads' HO_3.out).2.2); (case side2 => exact (Kd.R_reads' HO_3.out).2.1); rintro e w60 ⟨v547, rfl, ho0, hb⟩; refine ⟨_, rfl, ?_⟩; replace HO_4 := a0_ (Kd.R_below (ra_ HO_4.out) hb); replace HO_6 := a0_ (Kd.R_below (ra_ HO_6.out) hb); have HO548 := a0_ (Kd.R_lower (Kd.R_new' ho0 (Kd.R_lt (ra_ HO_3.out))) (below_size (by repeat (first | (with_reducible first | exact HB.out | apply below_alloc | apply pw_below_drewN | apply below_drew1 | refine below_set ?_ (IsS61.ge HI541.out)) | exact HB.out)))); replace HO_3 := a0_ (Kd.R_elder' (ra_ HO_3.out) (Kd.R_base ho0) hb); replace HB := a0_ (below_step (by repeat (first | (with_reducible first | exact HB.out | apply below_alloc | apply pw_below_drewN | apply below_drew1 | refine below_set ?_ (IsS61.ge HI541.out)) | exact HB.out)) hb); replace HI541 := a0_ (IsS61.below (is61_ HI541.out) hb); (try clear hb); (try clear hb2); (try clear hk); (try clear hi); (try clear ho0); obtain ⟨Ao61, co61, eo61⟩ := Kd.R_slice HO548.out; subst eo61) | (go_at_call 16; (with_reducible refine (impl_IsNet.calls k2 _ _ t545 false _ ?side1 ?side2 A47.out (Laid.below hG (by repeat (first | exact HB.out | exact Below.refl _ _ | apply below_alloc | apply pw_below_drewN | apply below_drew1)))).mono ?_); (case side1 => exact ca_ (Kd.R_reads' HO548.out).2.2); (case side2 => exact (Kd.R_reads' HO548.out).2.1); rintro e w62 ⟨rfl, hb⟩; replace HO_3 := a0_ (Kd.R_below (ra_ HO_3.out) hb); replace HO_4 := a0_ (Kd.R_below (ra_ HO_4.out) hb); replace HO_6 := a0_ (Kd.R_below (ra_ HO_6.out) hb); replace HO548 := a0_ (Kd.R_below (ra_ HO548.out) hb); replace HB := a0_ (below_step (by repeat (first | (with_reducible first | exact HB.out | apply below_alloc | apply pw_below_drewN | apply below_drew1 | refine below_set ?_ (IsS61.ge HI541.out)) | exact HB.out)) hb); replace HI541 := a0_ (IsS61.below (is61_ HI541.out) hb); (try clear hb); (try clear hb2); (try clear hk); (try clear hi)))
            go_ret
            exact ⟨er_, by repeat (first | (with_reducible first | exact HB.out | apply below_alloc | apply pw_below_drewN | apply below_drew1 | refine below_set ?_ (IsS61.ge HI541.out)) | exact HB.out)⟩
          ·rw [if_neg c46] at H
           have c46b0 : (t546 == 0) = false := beq_eq_false_iff_ne.mpr c46
           have c46b1 : (t546 != 0) = true := bne_iff_ne.mpr c46
           obtain rfl := Option.some.inj H
           obtain ⟨Ao63, co63, eo63⟩ := Kd.R_slice HO_4.out
           subst eo63
           go_wp2_with (first | ((with_reducible refine gate_callee (f := 18) rfl ?_); refine goesL_ (some 72) rfl rfl Tryd.func18 kr_ rfl #[.slice A0 l0.length c0, .int .u64 3201] rfl ta_ ?_; (with_reducible refine (laws_roll.calls k2 _ _ l0 3201 t538 t539 t540 w _ ?side1 ?side2 ?side3 A38.out).mono ?_); (case side1 => repeat (first | (with_reducible first | exact HB.out | apply below_alloc | apply pw_below_drewN | apply below_drew1) | exact HB.out)); (case side2 => exact HR0.out); (case side3 => exact HC0.out); rintro e w64 ⟨g541, rfl, hi, hb, hb2⟩; refine ⟨_, rfl, ?_⟩; replace HO_3 := a0_ (Kd.R_below (ra_ HO_3.out) hb2); replace HO_4 := a0_ (Kd.R_below (ra_ HO_4.out) hb2); replace HO_6 := a0_ (Kd.R_below (ra_ HO_6.out) hb2); replace HB := a0_ (hb); have HI541 := a0_ (hi); (try clear hb); (try clear hb2); (try clear hk); (try clear hi)) | ((with_reducible refine gate_callee (f := 19) rfl ?_); refine goesL_ (some 73) rfl rfl Tryd.func19 kr_ rfl #[.pointer (some ⟨g541, 0, none⟩), .int .i64 8] rfl ta_ ?_; (with_reducible refine (laws_dice_below.calls g541 t538 t539 t540 8 t542 t543 t544 w _ ?side1 ?side2 A39.out).mono ?_); (case side1 => exact is61_ HI541.out); (case side2 => repeat (first | (with_reducible first | exact HB.out | apply below_alloc | apply pw_below_drewN | apply below_drew1 | refine below_set ?_ (IsS61.ge HI541.out)) | exact HB.out)); rintro e w65 ⟨rfl, hi, hb, hk⟩; refine ⟨_, rfl, ?_⟩; replace HO_3 := a0_ (Kd.R_mono (Kd.R_keep (IsS61.apart (show IsS61 w _ g541 t538 t539 t540 from is61_ HI541.out) (ra_ HO_3.out) (by decide)) hk (fun _ h => h.2)) (fun _ h => h.1)); replace HO_4 := a0_ (Kd.R_mono (Kd.R_keep (IsS61.apart (show IsS61 w _ g541 t538 t539 t540 from is61_ HI541.out) (ra_ HO_4.out) (by decide)) hk (fun _ h => h.2)) (fun _ h => h.1)); replace HO_6 := a0_ (Kd.R_mono (Kd.R_keep (IsS61.apart (show IsS61 w _ g541 t538 t539 t540 from is61_ HI541.out) (ra_ HO_6.out) (by decide)) hk (fun _ h => h.2)) (fun _ h => h.1)); replace HB := a0_ (hb); replace HI541 := a0_ (hi); (try clear hb); (try clear hb2); (try clear hk); (try clear hi)) | ((with_reducible refine gate_callee (f := 11) rfl ?_); refine goesL_ (some 74) rfl rfl Tryd.func11 kr_ rfl #[.slice Ao9 t520.length co9, .int .i64 t542] rfl ta_ ?_; (with_reducible refine (impl_TurnShape.calls k2 _ _ t520 t542 t545 t546 _ ?side1 ?side2 A40.out).mono ?_); (case side1 => exact ca_ (Kd.R_reads' HO_3.out).2.2); (case side2 => exact (Kd.R_reads' HO_3.out).2.1); rintro e w66 ⟨v547, rfl, ho0, hb⟩; refine ⟨_, rfl, ?_⟩; replace HO_4 := a0_ (Kd.R_below (ra_ HO_4.out) hb); replace HO_6 := a0_ (Kd.R_below (ra_ HO_6.out) hb); have HO548 := a0_ (Kd.R_lower (Kd.R_new' ho0 (Kd.R_lt (ra_ HO_3.out))) (below_size (by repeat (first | (with_reducible first | exact HB.out | apply below_alloc | apply pw_below_drewN | apply below_drew1 | refine below_set ?_ (IsS61.ge HI541.out)) | exact HB.out)))); replace HO_3 := a0_ (Kd.R_elder' (ra_ HO_3.out) (Kd.R_base ho0) hb); replace HB := a0_ (below_step (by repeat (first | (with_reducible first | exact HB.out | apply below_alloc | apply pw_below_drewN | apply below_drew1 | refine below_set ?_ (IsS61.ge HI541.out)) | exact HB.out)) hb); replace HI541 := a0_ (IsS61.below (is61_ HI541.out) hb); (try clear hb); (try clear hb2); (try clear hk); (try clear hi); (try clear ho0)))
           go_ret
           exact ⟨er_, by repeat (first | (with_reducible first | exact HB.out | apply below_alloc | apply pw_below_drewN | apply below_drew1 | refine below_set ?_ (IsS61.ge HI541.out)) | exact HB.out)⟩
     ·rw [if_neg c24] at H
      have c24b0 : (t524 == 0) = false := beq_eq_false_iff_ne.mpr c24
      have c24b1 : (t524 != 0) = true := bne_iff_ne.mpr c24
      obtain ⟨t534, A67, H⟩ := bs_ H
      obtain rfl := Option.some.inj H
      go_wp2_with (first | ((with_reducible refine gate_callee (f := 16) rfl ?_); refine goesL_ (some 44) rfl rfl Tryd.func16 kr_ rfl #[.slice Ao9 t520.length co9] rfl ta_ ?_; (with_reducible refine (impl_IsNet.calls kj6 _ _ t520 t534 _ ?side1 ?side2 A67.out (Laid.below hG (by repeat (first | exact HB.out | exact Below.refl _ _ | apply below_alloc | apply pw_below_drewN | apply below_drew1)))).mono ?_); (case side1 => exact ca_ (Kd.R_reads' HO_3.out).2.2); (case side2 => exact (Kd.R_reads' HO_3.out).2.1); rintro e w68 ⟨rfl, hb⟩; refine ⟨_, rfl, ?_⟩; replace HO_3 := a0_ (Kd.R_below (ra_ HO_3.out) hb); replace HO_4 := a0_ (Kd.R_below (ra_ HO_4.out) hb); replace HO_6 := a0_ (Kd.R_below (ra_ HO_6.out) hb); replace HB := a0_ (below_step (bl0_) hb); (try clear hb); (try clear hb2); (try clear hk); (try clear hi)))
      go_ret
      exact ⟨er_, bl0_⟩

end Go.Proofs.YtopceddgiddhlaaDoor.PFnNets
