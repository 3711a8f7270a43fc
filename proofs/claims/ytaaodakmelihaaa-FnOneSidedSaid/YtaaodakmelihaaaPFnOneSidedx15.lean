/- Over the kit's printer by a driver of mine (hprint.py), with parts by hand: functions of the program as Lean functions, and that each call comes to exactly these answers. -/
import Derived.Test.YtaaodakmelihaaaPFnOneSidedx0
import Derived.Test.YtaaodakmelihaaaPFnOneSidedx2
import Derived.Test.YtaaodakmelihaaaPFnOneSidedx7
import Derived.Test.YtaaodakmelihaaaPFnOneSidedx10
import Derived.Test.YtaaodakmelihaaaPFnOneSidedx12
import Derived.Test.YtaaodakmelihaaaPFnOneSidedx13
import Derived.Test.YtaaodakmelihaaaPFnOneSidedx14
namespace Go.Proofs.Ytaaodakmelihaaa.PFnOneSided
open Go.RowKit Go.Proofs.YtaaodakmelihaaaW.PrintWords Go.Proofs.YtaaodakmelihaaaW.PrintLast Go.Proofs.YtaaodakmelihaaaW.PrintMore
attribute [local go_sem] max2_int min2_int max_two min_two max_three min_three max_four min_four   -- for this text's walks alone
set_option linter.unusedVariables false
set_option linter.unusedSimpArgs false

/-- A state of type 56 at block g of W; what its slices lead to came in by w0. -/
def IsS56 (w0 W : World) (g : Nat) (f0 : List Int) (f1 : Int) (f2 : Int) : Prop := ∃ A0 c0, W.heap[g]? = some (.cells #[.slice A0 f0.length c0, .int .i64 f1, .int .u64 f2] 56 (0, 0)) ∧ w0.heap.size ≤ g ∧ Kd.C (Kd.int .u8) w0 A0 f0.length f0
theorem IsS56.grown {w0 W : World} {g : Nat} {f0 : List Int} {f1 : Int} {f2 : Int} {W1 : World} {row : Option Nat} (h : IsS56 w0 W g f0 f1 f2) (hw : W.grownBy W1 row) (hne : some g ≠ row) : IsS56 w0 W1 g f0 f1 f2 := by
 obtain ⟨A0, c0, hb, hg, hr0⟩ := h
 exact ⟨A0, c0, blk_grown hb hw hne, hg, hr0⟩
theorem IsS56.own_neN {w0 W : World} {g : Nat} {f0 : List Int} {f1 : Int} {f2 : Int} {α : Type} {d : Kd α} {e : Nat} {base : Nat} {ok : Nat → Prop} {v : Value} {xs : List α} (h : IsS56 w0 W g f0 f1 f2) (ho : Kd.N d e W base ok v xs) (ht : e ≠ 56) : some g ≠ v.ownBlock := by
 obtain ⟨A0, c0, hb, hg, hr0⟩ := h
 exact Kd.N_ne ho hb ht
theorem IsS56.fresh {w0 W : World} {g : Nat} {f0 : List Int} {f1 : Int} {f2 : Int} (h : IsS56 w0 W g f0 f1 f2) : ∀ k, W.heap.size ≤ k → k ≠ g := by
 obtain ⟨A0, c0, hb, hg, hr0⟩ := h
 exact Kd.freshB hb
theorem IsS56.kept {w0 W : World} {g : Nat} {f0 : List Int} {f1 : Int} {f2 : Int} {W1 : World} {S : Nat → Prop} (h : IsS56 w0 W g f0 f1 f2) (hk : Kept W W1 S) (hne : ¬ S g) : IsS56 w0 W1 g f0 f1 f2 := by
 obtain ⟨A0, c0, hb, hg, hr0⟩ := h
 exact ⟨A0, c0, blk_kept hb hk hne, hg, hr0⟩
theorem IsS56.below {w0 W : World} {g : Nat} {f0 : List Int} {f1 : Int} {f2 : Int} {W1 : World} (h : IsS56 w0 W g f0 f1 f2) (hw : Below W.heap.size W W1) : IsS56 w0 W1 g f0 f1 f2 := h.grown (grown_of_below hw none) (by simp)
theorem IsS56.alloc {w0 W : World} {g : Nat} {f0 : List Int} {f1 : Int} {f2 : Int} (h : IsS56 w0 W g f0 f1 f2) (o : Obj) : IsS56 w0 (W.alloc o) g f0 f1 f2 := h.below (below_alloc (Below.refl _ _) o)
theorem IsS56.drewN {w0 W : World} {g : Nat} {f0 : List Int} {f1 : Int} {f2 : Int} (h : IsS56 w0 W g f0 f1 f2) (m : Nat) : IsS56 w0 (W.drewN m) g f0 f1 f2 := h
theorem IsS56.drew {w0 W : World} {g : Nat} {f0 : List Int} {f1 : Int} {f2 : Int} (h : IsS56 w0 W g f0 f1 f2) : IsS56 w0 W.drew g f0 f1 f2 := h
theorem IsS56.at_ {w0 W : World} {g : Nat} {f0 : List Int} {f1 : Int} {f2 : Int} {w' : World} {m : Nat} (hq : W.drewN m = w') (h : IsS56 w0 W g f0 f1 f2) : IsS56 w0 w' g f0 f1 f2 := by subst hq; exact IsS56.drewN h m
theorem IsS56.apart {w0 W : World} {g : Nat} {f0 : List Int} {f1 : Int} {f2 : Int} {α : Type} {d : Kd α} {e : Nat} {base : Nat} {ok : Nat → Prop} {v : Value} {xs : List α} (h : IsS56 w0 W g f0 f1 f2) (ho : d.R e W base ok v xs) (ht : ∀ q, q ∈ e :: d.E → q ≠ 56) : d.R e W base (fun k => ok k ∧ k ≠ g) v xs := by
 obtain ⟨A0, c0, hb, hg, hr0⟩ := h
 exact Kd.R_types ho hb ht
theorem IsS56.own_ne {w0 W : World} {g : Nat} {f0 : List Int} {f1 : Int} {f2 : Int} {α : Type} {d : Kd α} {e : Nat} {base : Nat} {ok : Nat → Prop} {v : Value} {xs : List α} (h : IsS56 w0 W g f0 f1 f2) (ho : d.R e W base ok v xs) (ht : e ≠ 56) : some g ≠ v.ownBlock := by
 obtain ⟨A0, c0, hb, hg, hr0⟩ := h
 exact Kd.R_ne ho hb ht
theorem IsS56.apartQ {w0 W : World} {g : Nat} {f0 : List Int} {f1 : Int} {f2 : Int} {α : Type} {d : Kd α} {e : Nat} {base : Nat} {ok : Nat → Prop} {v : Value} {xs : List α} (h : IsS56 w0 W g f0 f1 f2) (ho : d.Q e W base ok v xs) (ht : ∀ q, q ∈ e :: d.E → q ≠ 56) : d.Q e W base (fun k => ok k ∧ k ≠ g) v xs := by
 obtain ⟨A0, c0, hb, hg, hr0⟩ := h
 exact Kd.Q_types ho hb ht
theorem IsS56.own_neQ {w0 W : World} {g : Nat} {f0 : List Int} {f1 : Int} {f2 : Int} {α : Type} {d : Kd α} {e : Nat} {base : Nat} {ok : Nat → Prop} {v : Value} {xs : List α} (h : IsS56 w0 W g f0 f1 f2) (ho : d.Q e W base ok v xs) (ht : e ≠ 56) : some g ≠ v.ownBlock := by
 obtain ⟨A0, c0, hb, hg, hr0⟩ := h
 exact Kd.Q_ne ho hb ht
theorem IsS56.apartS {w0 W : World} {g : Nat} {f0 : List Int} {f1 : Int} {f2 : Int} {α : Type} {d : Kd α} {e : Nat} {base : Nat} {ok : Nat → Prop} {v : Value} {xs : List α} (h : IsS56 w0 W g f0 f1 f2) (ho : d.S e W base ok v xs) (ht : ∀ q, q ∈ e :: d.E → q ≠ 56) : d.S e W base (fun k => ok k ∧ k ≠ g) v xs := by
 obtain ⟨A0, c0, hb, hg, hr0⟩ := h
 exact Kd.S_types ho hb ht
theorem IsS56.own_neS {w0 W : World} {g : Nat} {f0 : List Int} {f1 : Int} {f2 : Int} {α : Type} {d : Kd α} {e : Nat} {base : Nat} {ok : Nat → Prop} {v : Value} {xs : List α} (h : IsS56 w0 W g f0 f1 f2) (ho : d.S e W base ok v xs) (ht : e ≠ 56) : some g ≠ v.ownBlock := by
 obtain ⟨A0, c0, hb, hg, hr0⟩ := h
 exact Kd.S_ne ho hb ht
theorem IsS56.lt {w0 W : World} {g : Nat} {f0 : List Int} {f1 : Int} {f2 : Int} (h : IsS56 w0 W g f0 f1 f2) : g < W.heap.size := by
 obtain ⟨A0, c0, hb, hg, hr0⟩ := h
 exact blk_lt hb
theorem IsS56.ge {w0 W : World} {g : Nat} {f0 : List Int} {f1 : Int} {f2 : Int} (h : IsS56 w0 W g f0 f1 f2) : w0.heap.size ≤ g := by
 obtain ⟨A0, c0, hb, hg, hr0⟩ := h
 exact hg
theorem IsS56.ne_blk {w0 W : World} {g : Nat} {f0 : List Int} {f1 : Int} {f2 : Int} {a : Nat} {cs : Array Value} {t : TypeId} {fr : Nat × Nat} (h : IsS56 w0 W g f0 f1 f2) (hb2 : W.heap[a]? = some (.cells cs t fr)) (ht : t ≠ 56) : g ≠ a := by
 obtain ⟨A0, c0, hb, hg, hr0⟩ := h
 rintro rfl
 rw [hb] at hb2
 injection hb2 with hb2
 injection hb2 with _ ht2
 exact ht ht2.symm
theorem IsS56.far {w0 W : World} {g : Nat} {f0 : List Int} {f1 : Int} {f2 : Int} {p : Addr} (h : IsS56 w0 W g f0 f1 f2) (hne : g ≠ p.block) (u : Value) : IsS56 w0 (W.setCell p u) g f0 f1 f2 := by
 obtain ⟨A0, c0, hb, hg, hr0⟩ := h
 exact ⟨A0, c0, blk_far hb hne u, hg, hr0⟩
theorem cellS56_0 {W : World} {g : Nat} {A0 : Option Addr} {c0 : Nat} {f0 : List Int} {f1 : Int} {f2 : Int} (h : W.heap[g]? = some (.cells #[.slice A0 f0.length c0, .int .i64 f1, .int .u64 f2] 56 (0, 0))) : W.cell? ⟨g, 0, none⟩ = some (.slice A0 f0.length c0) := (blk_cell h 0).trans rfl
theorem cellS56_1 {W : World} {g : Nat} {A0 : Option Addr} {c0 : Nat} {f0 : List Int} {f1 : Int} {f2 : Int} (h : W.heap[g]? = some (.cells #[.slice A0 f0.length c0, .int .i64 f1, .int .u64 f2] 56 (0, 0))) : W.cell? ⟨g, 1, none⟩ = some (.int .i64 f1) := (blk_cell h 1).trans rfl
theorem IsS56.set_1 {w0 W : World} {g : Nat} {f0 : List Int} {f1 : Int} {f2 : Int} (h : IsS56 w0 W g f0 f1 f2) (x : Int) : IsS56 w0 (W.setCell ⟨g, 1, none⟩ (.int .i64 x)) g f0 x f2 := by
 obtain ⟨A0, c0, hb, hg, hr0⟩ := h
 exact ⟨A0, c0, by simpa using blk_set hb 1 (.int .i64 x), hg, hr0⟩
theorem cellS56_2 {W : World} {g : Nat} {A0 : Option Addr} {c0 : Nat} {f0 : List Int} {f1 : Int} {f2 : Int} (h : W.heap[g]? = some (.cells #[.slice A0 f0.length c0, .int .i64 f1, .int .u64 f2] 56 (0, 0))) : W.cell? ⟨g, 2, none⟩ = some (.int .u64 f2) := (blk_cell h 2).trans rfl
theorem IsS56.set_2 {w0 W : World} {g : Nat} {f0 : List Int} {f1 : Int} {f2 : Int} (h : IsS56 w0 W g f0 f1 f2) (x : Int) : IsS56 w0 (W.setCell ⟨g, 2, none⟩ (.int .u64 x)) g f0 f1 x := by
 obtain ⟨A0, c0, hb, hg, hr0⟩ := h
 exact ⟨A0, c0, by simpa using blk_set hb 2 (.int .u64 x), hg, hr0⟩
theorem IsS56.new (w0 W : World) (A0 : Option Addr) (c0 : Nat) (f0 : List Int) (f1 : Int) (f2 : Int) (hB : Below w0.heap.size w0 W) (hr0 : Kd.C (Kd.int .u8) w0 A0 f0.length f0) : IsS56 w0 (W.alloc (.cells #[.slice A0 f0.length c0, .int .i64 f1, .int .u64 f2] 56)) W.heap.size f0 f1 f2 := ⟨A0, c0, by simpa using heap_alloc_new W _, hB.size, hr0⟩
theorem is56_ {p q : Prop} (g : q) (h : q → p := by intro G_; repeat (first | (with_reducible first | exact G_ | apply IsS56.alloc | apply IsS56.drewN | apply IsS56.drew | apply IsS56.set_1 | apply IsS56.set_2) | exact G_)) : p := h g

/-! ### laws_roll: function 16 -/
def laws_roll.l0 : Nat → List Int → Int → List Int → Int → Int → Option (List Int × Int × Int)
 | 0, _, _, _, _, _ => none
 | k + 1, x0, x6, x463000, x463001, x463002 => if x6 < (x0.length : Int) then (if 0 ≤ x6 then (laws_roll.l0 k x0 (wrap64 (x6 + 1)) x463000 x463001 (IntKind.u64.wrap ((IntKind.u64.wrap ((IntKind.u64.wrap (x463002 * 1099511628211)) + (IntKind.u64.wrap (rd x0 x6)))) + 3))) else (none)) else (some (x463000, x463001, x463002))
def laws_roll.f (k : Nat) (l0 : List Int) (a1 : Int) : Option (List Int × Int × Int) := laws_roll.l0 k l0 0 l0 0 (IntKind.u64.wrap ((IntKind.u64.wrap (a1 * 7919)) + (IntKind.u64.wrap ((l0.length : Int)))))
theorem laws_roll.mono_l : ∀ k, (∀ y0 y1 y2 y3 y4, LeO (laws_roll.l0 k y0 y1 y2 y3 y4) (laws_roll.l0 (k + 1) y0 y1 y2 y3 y4))
 | 0 => fun _ _ _ _ _ r h => by simp [laws_roll.l0] at h
 | k + 1 => by
  have ih0 := laws_roll.mono_l k
  ·intro y0 y1 y2 y3 y4
   unfold laws_roll.l0
   repeat' first
   | (with_reducible exact ih0 _ _ _ _ _)
   | (with_reducible exact LeO.refl _)
   | (with_reducible exact LeO.none _)
   | (with_reducible refine LeO.ite ?_ ?_)
   | (with_reducible refine LeO.bind ?_ (fun _ => ?_))
   | exact ih0 _ _ _ _ _
   | exact LeO.none _
   | refine LeO.ite ?_ ?_
   | refine LeO.bind ?_ (fun _ => ?_)
theorem laws_roll.mono : ∀ a0 a1 k, LeO (laws_roll.f k a0 a1) (laws_roll.f (k + 1) a0 a1) := by
 intro a0 a1 k
 have ih0 := laws_roll.mono_l k
 unfold laws_roll.f
 repeat' first
   | (with_reducible exact ih0 _ _ _ _ _)
   | (with_reducible exact LeO.refl _)
   | (with_reducible exact LeO.none _)
   | (with_reducible refine LeO.ite ?_ ?_)
   | (with_reducible refine LeO.bind ?_ (fun _ => ?_))
   | exact ih0 _ _ _ _ _
   | exact LeO.none _
   | refine LeO.ite ?_ ?_
   | refine LeO.bind ?_ (fun _ => ?_)
def laws_roll.T5 : Bool × List (List Nat × List Nat) := (true, [([], []), ([], []), ([1], [1]), ([2], [2]), ([3], [3]), ([4], [4]), ([], []), ([], []), ([6, 7], [6, 7]), ([8], [8]), ([9], [9]), ([5, 10], [5, 10]), ([11], [11]), ([0, 0, 1, 2, 3, 4, 5, 6, 7, 8, 9, 10, 11, 12], [0]), ([13, 0, 1, 2, 3, 4, 5, 6, 7, 8, 9, 10, 11, 12], [13]), ([14, 12, 0, 1, 2, 3, 4, 5, 6, 7, 8, 9, 10, 11, 12], [12, 14])])
def laws_roll.B5 : List Nat := [0, 0, 2, 6, 14, 30, 0, 0, 192, 448, 960, 2046, 4094, 8191, 16383, 32767]
theorem laws_roll.tab5 : rtab .any (opsOf Try.f16 5) = laws_roll.T5 := by kernel_rfl
theorem laws_roll.bits5 : waitsOk laws_roll.T5.2 laws_roll.B5 = true := by kernel_rfl
set_option maxHeartbeats 8000000 in
set_option maxRecDepth 100000 in
theorem laws_roll.calls (k : Nat) (A0 : Option Addr) (c0 : Nat) (l0 : List Int) (a1 : Int) (r1 : List Int) (r2 : Int) (r3 : Int) (w0 w : World) (hB : Below w0.heap.size w0 w) (hr0 : Kd.C (Kd.int .u8) w0 A0 l0.length l0) (hc0 : l0.length ≤ c0) (h : laws_roll.f k l0 a1 = some (r1, r2, r3)) :
  Calls Try.prog 16 #[.slice A0 l0.length c0, .int .u64 a1] w fun e w' => ∃ g_ : Nat, e = .returned (.pointer (some ⟨g_, 0, none⟩)) ∧ IsS56 w0 w' g_ r1 r2 r3 ∧ Below w0.heap.size w0 w' ∧ Below w.heap.size w w' := by
 have hu56 := Try.underlying56
 have HR0 := Aside0.mk hr0
 have HC0 := Aside0.mk hc0
 clear hr0 hc0
 have HBW := Aside0.mk (Below.refl w.heap.size w)
 have HW0 := Aside0.mk hB.size
 have HB := Aside0.mk hB
 clear hB
 have H : (laws_roll.l0 k l0 0 l0 0 (IntKind.u64.wrap ((IntKind.u64.wrap (a1 * 7919)) + (IntKind.u64.wrap ((l0.length : Int)))))) = some (r1, r2, r3) := h
 clear h
 have H' := Aside0.mk H
 clear H
 go_enter Try.func16, Try.ntmps16
 go_wp2_with (first | ((with_reducible refine gate_dst (N := 15) rfl ?_); refine box_event ?hg (N := 15) ?hd (cs := #[.slice A0 l0.length c0, .int .i64 0, .int .u64 (IntKind.u64.wrap ((IntKind.u64.wrap (a1 * 7919)) + (IntKind.u64.wrap ((l0.length : Int)))))]) (t := 56) ?hr ?_; (case hd => rfl); (case hg => rfl); (case hr => first | (go_simp; done) | (go_simp; rfl)); intro gb462 hg w3 hbox hb; have n0_ := Aside0.mk (below_step HBW.out hb); have n1_ := Aside0.mk (below_step (bl0_) hb); have n2_ := Aside0.mk (hbox); have n3_ := Aside0.mk ((by rw [hg]; exact (below_size (by repeat (first | (with_reducible first | exact HBW.out | apply below_alloc | apply pw_below_drewN | apply below_drew1) | exact HBW.out))) : w.heap.size ≤ gb462)); have n4_ := Aside0.mk ((Nat.le_trans HW0.out (by rw [hg]; exact (below_size (by repeat (first | (with_reducible first | exact HBW.out | apply below_alloc | apply pw_below_drewN | apply below_drew1) | exact HBW.out))) : w.heap.size ≤ gb462) : w0.heap.size ≤ gb462)); clear HBW; clear HB; have HBW := n0_; have HB := n1_; have BK462 := n2_; have GW462 := n3_; have GE462 := n4_; clear n0_ n1_ n2_ n3_ n4_; clear hb hbox hg))
 go_loopg [6] k (fun kq v6 w' => ∃ (x6_1 : Int) (x463002_1 : Int), v6 = .int .i64 x6_1 ∧ Aside0 (laws_roll.l0 kq l0 x6_1 l0 0 x463002_1 = some (r1, r2, r3)) ∧ Aside0 (kq ≤ k) ∧ Aside0 (w'.heap[gb462]? = some (.cells #[(.slice A0 l0.length c0), .int .i64 0, .int .u64 x463002_1] 56 (0, 0))) ∧ Aside0 (Below w0.heap.size w0 w') ∧ Aside0 (Below w.heap.size w w'))
 case atStart => exact ⟨(0), (IntKind.u64.wrap ((IntKind.u64.wrap (a1 * 7919)) + (IntKind.u64.wrap ((l0.length : Int))))), rs_, H', ⟨Nat.le_refl _⟩, ⟨bk_ BK462.out⟩, ⟨bl1_ GE462.out⟩, ⟨by repeat (first | (with_reducible first | exact HBW.out | apply below_alloc | apply pw_below_drewN | apply below_drew1 | refine below_set ?_ GW462.out) | exact HBW.out)⟩⟩
 case round =>
  clear H'
  try clear c1
  try clear p2
  obtain ⟨x6_1, x463002_1, rfl, HA, HK1, BK462, HB, HBW⟩ := hrel
  cases gk with
  | zero => exact absurd HA.out (by simp [laws_roll.l0])
  | succ k1 =>
   have H := HA.out
   clear HA
   simp only [laws_roll.l0] at H
   by_cases c4 : x6_1 < (l0.length : Int)
   ·rw [if_pos c4] at H
    have c4b0 : decide (x6_1 < (l0.length : Int)) = true := decide_eq_true c4
    clear c4
    by_cases c5 : 0 ≤ x6_1
    ·rw [if_pos c5] at H
     have c5b0 : decide (0 ≤ x6_1) = true := decide_eq_true c5
     clear c5
     have H' := Aside0.mk H
     clear H
     try go_wp2
     have n0_ := Aside0.mk (blk_drew BK462.out)
     have n1_ := Aside0.mk (below_drew1 HB.out)
     replace HBW := Aside0.mk (below_drew1 HBW.out)
     clear BK462
     clear HB
     have BK462 := n0_
     have HB := n1_
     clear n0_ n1_
     have p463 : 0 ≤ (x6_1 : Int) := od_
     have q463 : x6_1 < (l0.length : Int) := od_
     obtain ⟨ad463, e463, hx463_0⟩ := Kd.at_int HR0.out x6_1 p463 q463
     have hw463_0 := hx463_0
     cases e463
     replace hx463_0 := pw_cell_below HB.out hx463_0
     replace p463 := eq_true p463
     replace q463 := eq_true q463
     refine start_ (n := 16) (S := fun w' => w'.cell? ⟨gb462, 0, none⟩ = some (.slice (some ad463) l0.length c0) ∧ w'.cell? ⟨gb462, 1, none⟩ = some (.int .i64 0) ∧ w'.cell? ⟨gb462, 2, none⟩ = some (.int .u64 x463002_1) ∧ w'.cell? (ad463.add (x6_1).toNat) = some (.int .u8 (rd l0 x6_1))) (ds := [15]) #[false, false, false, false, false, false, false, false, false, false, false, false, false, false, false, false] kr_ rfl rfl ⟨(blk_cell BK462.out 0).trans rfl, (blk_cell BK462.out 1).trans rfl, (blk_cell BK462.out 2).trans rfl, ((HB.out.cell (World.block_lt_of_cell? w0 _ hw463_0)).trans hw463_0)⟩ (fun hHeld => ?_); refine with_tabW laws_roll.tab5 laws_roll.bits5 (fun HT_ HW_ => ?_)
     generalize wr.drew = w6 at BK462 HB HBW hx463_0 hHeld ⊢
     refine pure_ (i := 0) (N := some 22) (v := ?_) (a' := ?_) #[true, false, false, false, false, false, false, false, false, false, false, false, false, false, false, false] rfl rfl (any_of HT_.out kr_) (fun _ _ _ h => h) (Or.inl ⟨by rfl, ?_⟩) ?_ ?_
     rotate_left
     ·intro w'
      go_simp
      with_reducible rfl
     rotate_left
     ·simp only [sp_]
      rfl
     refine pure_ (i := 1) (N := some 23) (v := ?_) (a' := ?_) #[true, true, false, false, false, false, false, false, false, false, false, false, false, false, false, false] rfl rfl (any_of HT_.out kr_) (fun _ _ _ h => h) (Or.inl ⟨by rfl, ?_⟩) ?_ ?_
     rotate_left
     ·intro w'
      go_simp
      with_reducible rfl
     rotate_left
     ·simp only [sp_]
      rfl
     refine pure_ (i := 2) (N := some 24) (v := ?_) (a' := ?_) #[true, true, true, false, false, false, false, false, false, false, false, false, false, false, false, false] rfl rfl (any_of HT_.out kr_) (fun _ _ _ h => h) (Or.inl ⟨by rfl, ?_⟩) ?_ ?_
     rotate_left
     ·intro w'
      go_simp
      with_reducible rfl
     rotate_left
     ·simp only [sp_]
      rfl
     refine pure_ (i := 3) (N := some 25) (v := ?_) (a' := ?_) #[true, true, true, true, false, false, false, false, false, false, false, false, false, false, false, false] rfl rfl (any_of HT_.out kr_) (fun _ _ _ h => h) (Or.inl ⟨by rfl, ?_⟩) ?_ ?_
     rotate_left
     ·intro w'
      go_simp
      with_reducible rfl
     rotate_left
     ·simp only [sp_]
      rfl
     refine pure_ (i := 6) (N := some 28) (v := ?_) (a' := ?_) #[true, true, true, true, false, false, true, false, false, false, false, false, false, false, false, false] rfl rfl (any_of HT_.out kr_) (fun _ _ _ h => h) (Or.inl ⟨by rfl, ?_⟩) ?_ ?_
     rotate_left
     ·intro w'
      go_simp
      with_reducible rfl
     rotate_left
     ·simp only [sp_]
      rfl
     refine pure_ (i := 7) (N := some 29) (v := ?_) (a' := ?_) #[true, true, true, true, false, false, true, true, false, false, false, false, false, false, false, false] rfl rfl (any_of HT_.out kr_) (fun _ _ _ h => h) (Or.inl ⟨by rfl, ?_⟩) ?_ ?_
     rotate_left
     ·intro w'
      go_simp
      with_reducible rfl
     rotate_left
     ·simp only [sp_]
      rfl
     refine pure_ (i := 8) (N := some 30) (v := ?_) (a' := ?_) #[true, true, true, true, false, false, true, true, true, false, false, false, false, false, false, false] rfl rfl (any_of HT_.out kr_) (fun _ _ _ h => h) (Or.inl ⟨by rfl, ?_⟩) ?_ ?_
     rotate_left
     ·intro w'
      go_simp
      with_reducible rfl
     rotate_left
     ·simp only [sp_]
      rfl
     refine take_ (i := 4) (N := some 26) (v := ?_) (a' := ?_) #[true, true, true, true, true, false, true, true, true, false, false, false, false, false, false, false] rfl rfl (take_ofW HT_.out HW_.out kr_) (fun _ _ _ h => h) (Or.inl ⟨by rfl, ?_⟩) hHeld ?_ ?_
     rotate_left
     ·rintro w' ⟨s0, s1, s2, s3⟩
      go_simp
      with_reducible rfl
     rotate_left
     ·simp only [sp_]
      rfl
     refine pure_ (i := 5) (N := some 27) (v := ?_) (a' := ?_) #[true, true, true, true, true, true, true, true, true, false, false, false, false, false, false, false] rfl rfl (any_of HT_.out kr_) (fun _ _ _ h => h) (Or.inl ⟨by rfl, ?_⟩) ?_ ?_
     rotate_left
     ·intro w'
      go_simp
      with_reducible rfl
     rotate_left
     ·simp only [sp_]
      rfl
     refine take_ (i := 9) (N := some 31) (v := ?_) (a' := ?_) #[true, true, true, true, true, true, true, true, true, true, false, false, false, false, false, false] rfl rfl (take_ofW HT_.out HW_.out kr_) (fun _ _ _ h => h) (Or.inl ⟨by rfl, ?_⟩) hHeld ?_ ?_
     rotate_left
     ·rintro w' ⟨s0, s1, s2, s3⟩
      go_simp
      with_reducible rfl
     rotate_left
     ·simp only [sp_]
      rfl
     refine pure_ (i := 10) (N := some 32) (v := ?_) (a' := ?_) #[true, true, true, true, true, true, true, true, true, true, true, false, false, false, false, false] rfl rfl (any_of HT_.out kr_) (fun _ _ _ h => h) (Or.inl ⟨by rfl, ?_⟩) ?_ ?_
     rotate_left
     ·intro w'
      go_simp
      with_reducible rfl
     rotate_left
     ·simp only [sp_]
      rfl
     refine pure_ (i := 11) (N := some 33) (v := ?_) (a' := ?_) #[true, true, true, true, true, true, true, true, true, true, true, true, false, false, false, false] rfl rfl (any_of HT_.out kr_) (fun _ _ _ h => h) (Or.inl ⟨by rfl, ?_⟩) ?_ ?_
     rotate_left
     ·intro w'
      go_simp
      with_reducible rfl
     rotate_left
     ·simp only [sp_]
      rfl
     refine pure_ (i := 12) (N := some 34) (v := ?_) (a' := ?_) #[true, true, true, true, true, true, true, true, true, true, true, true, true, false, false, false] rfl rfl (any_of HT_.out kr_) (fun _ _ _ h => h) (Or.inl ⟨by rfl, ?_⟩) ?_ ?_
     rotate_left
     ·intro w'
      go_simp
      with_reducible rfl
     rotate_left
     ·simp only [sp_]
      rfl
     refine pure_ (i := 13) (N := some 35) (v := ?_) (a' := ?_) #[true, true, true, true, true, true, true, true, true, true, true, true, true, true, false, false] rfl rfl (any_of HT_.out kr_) (fun _ _ _ h => h) (Or.inl ⟨by rfl, ?_⟩) ?_ ?_
     rotate_left
     ·intro w'
      go_simp
      with_reducible rfl
     rotate_left
     ·simp only [sp_]
      rfl
     refine pure_ (i := 14) (N := some 36) (v := ?_) (a' := ?_) #[true, true, true, true, true, true, true, true, true, true, true, true, true, true, true, false] rfl rfl (any_of HT_.out kr_) (fun _ _ _ h => h) (Or.inl ⟨by rfl, ?_⟩) ?_ ?_
     rotate_left
     ·intro w'
      go_simp
      with_reducible rfl
     rotate_left
     ·simp only [sp_]
      rfl
     refine last_ (i := 15) (N := none) #[true, true, true, true, true, true, true, true, true, true, true, true, true, true, true, true] rfl rfl (one_of HT_.out kr_) (by decide) (fun K hK => ?_)
     have hs7 : w6.cell? ⟨gb462, 2, none⟩ = some (.int .u64 x463002_1) := (blk_cell BK462.out 2).trans rfl
     have hfs7 := blk_frozen BK462.out 2
     refine skip_ (w1 := ?_) (by rfl) rfl ?_ ?_
     rotate_left
     ·go_simp
      rfl
     refine hK.out _ _ ?_
     clear hK K
     refine done_ (done_of HT_.out kr_) ?_
     try go_wp2
     go_roundg k1
     case measure => have := HK1.out; omega
     case rel => exact ⟨(wrap64 (x6_1 + 1)), (IntKind.u64.wrap ((IntKind.u64.wrap ((IntKind.u64.wrap (x463002_1 * 1099511628211)) + (IntKind.u64.wrap (rd l0 x6_1)))) + 3)), rs_, H', ⟨by have := HK1.out; omega⟩, ⟨by (with_reducible repeat (first | refine blk_drewN ?_ _ | refine blk_drew ?_ | refine blk_alloc ?_ _)); refine blk_put (cs := #[.slice (some ad463) l0.length c0, .int .i64 0, .int .u64 x463002_1]) ?_ 2 _ rfl; (with_reducible repeat (first | refine blk_drewN ?_ _ | refine blk_drew ?_ | refine blk_alloc ?_ _)); exact BK462.out⟩, ⟨bl1_ GE462.out⟩, ⟨by repeat (first | (with_reducible first | exact HBW.out | apply below_alloc | apply pw_below_drewN | apply below_drew1 | refine below_set ?_ GW462.out) | exact HBW.out)⟩⟩
    ·rw [if_neg c5] at H
     exact absurd H (by simp)
   ·rw [if_neg c4] at H
    have c4b0 : decide (x6_1 < (l0.length : Int)) = false := decide_eq_false c4
    clear c4
    simp only [Option.some.injEq, Prod.mk.injEq] at H
    obtain ⟨rfl, rfl, rfl⟩ := H
    go_wp2
    go_ret
    exact ⟨_, rfl, (show IsS56 w0 _ gb462 l0 0 x463002_1 from ⟨_, _, bk_ BK462.out, GE462.out, HR0.out⟩), bl1_ GE462.out, by repeat (first | (with_reducible first | exact HBW.out | apply below_alloc | apply pw_below_drewN | apply below_drew1 | refine below_set ?_ GW462.out) | exact HBW.out)⟩

/-! ### laws_dice_below: function 17 -/
def laws_dice_below.f (s0_0 : List Int) (s0_1 : Int) (s0_2 : Int) (a1 : Int) : Option (Int × Int × Int) := if s0_1 < (s0_0.length : Int) then (if 0 ≤ s0_1 then (if a1 = 0 then (none) else (some (Int.tmod (wrap64 ((wrap64 (Go.bits .and .u64 ((IntKind.u64.wrap ((IntKind.u64.wrap (s0_2 * 6364136223846793005)) + 1442695040888963407)) / 8589934592) 16777215)) + (wrap64 (rd s0_0 s0_1)))) a1, wrap64 (s0_1 + 1), IntKind.u64.wrap ((IntKind.u64.wrap (s0_2 * 6364136223846793005)) + 1442695040888963407)))) else (none)) else (if a1 = 0 then (none) else (some (Int.tmod (wrap64 (Go.bits .and .u64 ((IntKind.u64.wrap ((IntKind.u64.wrap (s0_2 * 6364136223846793005)) + 1442695040888963407)) / 8589934592) 16777215)) a1, s0_1, IntKind.u64.wrap ((IntKind.u64.wrap (s0_2 * 6364136223846793005)) + 1442695040888963407))))
set_option maxHeartbeats 8000000 in
set_option maxRecDepth 100000 in
theorem laws_dice_below.calls (g : Nat) (s0_0 : List Int) (s0_1 : Int) (s0_2 : Int) (a1 : Int) (r1 : Int) (r2 : Int) (r3 : Int) (w0 w : World) (hI : IsS56 w0 w g s0_0 s0_1 s0_2) (hB : Below w0.heap.size w0 w) (h : laws_dice_below.f s0_0 s0_1 s0_2 a1 = some (r1, r2, r3)) :
  Calls Try.prog 17 #[.pointer (some ⟨g, 0, none⟩), .int .i64 a1] w fun e w' => e = .returned (.int .i64 r1) ∧ IsS56 w0 w' g s0_0 r2 r3 ∧ Below w0.heap.size w0 w' ∧ KeepBut w w' g none := by
 have HI0 := Aside0.mk hI
 have HK := Aside0.mk (KeepBut.refl w g none)
 have HL := Aside0.mk hB.size
 clear hI
 have HW0 := Aside0.mk hB.size
 have HB := Aside0.mk hB
 clear hB
 have H : (if s0_1 < (s0_0.length : Int) then (if 0 ≤ s0_1 then (if a1 = 0 then (none) else (some (Int.tmod (wrap64 ((wrap64 (Go.bits .and .u64 ((IntKind.u64.wrap ((IntKind.u64.wrap (s0_2 * 6364136223846793005)) + 1442695040888963407)) / 8589934592) 16777215)) + (wrap64 (rd s0_0 s0_1)))) a1, wrap64 (s0_1 + 1), IntKind.u64.wrap ((IntKind.u64.wrap (s0_2 * 6364136223846793005)) + 1442695040888963407)))) else (none)) else (if a1 = 0 then (none) else (some (Int.tmod (wrap64 (Go.bits .and .u64 ((IntKind.u64.wrap ((IntKind.u64.wrap (s0_2 * 6364136223846793005)) + 1442695040888963407)) / 8589934592) 16777215)) a1, s0_1, IntKind.u64.wrap ((IntKind.u64.wrap (s0_2 * 6364136223846793005)) + 1442695040888963407))))) = some (r1, r2, r3) := h
 clear h
 by_cases c3 : s0_1 < (s0_0.length : Int)
 ·rw [if_pos c3] at H
  have c3b0 : decide (s0_1 < (s0_0.length : Int)) = true := decide_eq_true c3
  clear c3
  by_cases c4 : 0 ≤ s0_1
  ·rw [if_pos c4] at H
   have c4b0 : decide (0 ≤ s0_1) = true := decide_eq_true c4
   clear c4
   by_cases c5 : a1 = 0
   ·rw [if_pos c5] at H
    exact absurd H (by simp)
   ·rw [if_neg c5] at H
    have c5b0 : (a1 == 0) = false := beq_eq_false_iff_ne.mpr c5
    have c5b1 : (a1 != 0) = true := bne_iff_ne.mpr c5
    simp only [Option.some.injEq, Prod.mk.injEq] at H
    obtain ⟨rfl, rfl, rfl⟩ := H
    obtain ⟨ASz6_0, cSz6_0, HGz6, hgz6, HSz6_0⟩ := HI0.out
    have hcz6_0 := cellS56_0 HGz6
    have hcz6_1 := cellS56_1 HGz6
    have hcz6_2 := cellS56_2 HGz6
    have hfz6_1 := blk_frozen HGz6 1
    have hfz6_2 := blk_frozen HGz6 2
    clear HGz6 hgz6
    have p464 : 0 ≤ (s0_1 : Int) := od_
    have q464 : s0_1 < (s0_0.length : Int) := od_
    obtain ⟨ad464, e464, hx464_0⟩ := Kd.at_int HSz6_0 s0_1 p464 q464
    cases e464
    have hn464_0 : ad464.block ≠ g := Nat.ne_of_lt (Nat.lt_of_lt_of_le (by have := World.block_lt_of_cell? _ _ hx464_0; first | rwa [add_block] at this | exact this) (IsS56.ge HI0.out))
    replace hx464_0 := pw_cell_below HB.out hx464_0
    replace hx464_0 := (cell_far (p := ⟨g, 2, none⟩) (by first | (rw [add_block]; exact hn464_0) | (show (Addr.add _ _).block ≠ _; rw [add_block]; exact hn464_0) | exact hn464_0) (.int .u64 (IntKind.u64.wrap ((IntKind.u64.wrap (s0_2 * 6364136223846793005)) + 1442695040888963407)))).trans hx464_0
    (try have hy464_0 := fun (n_ : Nat) => (show (((w.drewN n_).setCell ⟨g, 2, none⟩ (.int .u64 (IntKind.u64.wrap ((IntKind.u64.wrap (s0_2 * 6364136223846793005)) + 1442695040888963407))))).cell? _ = some _ from hx464_0))
    clear hn464_0
    replace p464 := eq_true p464
    replace q464 := eq_true q464
    go_enter Try.func17, Try.ntmps17
    go_wp2
    repeat (go_quiet (fail); try go_wp2)
    go_ret
    exact ⟨er_, is56_ HI0.out, by repeat (first | (with_reducible first | exact HB.out | apply below_alloc | apply pw_below_drewN | apply below_drew1 | refine below_set ?_ (IsS56.ge HI0.out)) | exact HB.out), kb0_⟩
  ·rw [if_neg c4] at H
   exact absurd H (by simp)
 ·rw [if_neg c3] at H
  have c3b0 : decide (s0_1 < (s0_0.length : Int)) = false := decide_eq_false c3
  clear c3
  by_cases c7 : a1 = 0
  ·rw [if_pos c7] at H
   exact absurd H (by simp)
  ·rw [if_neg c7] at H
   have c7b0 : (a1 == 0) = false := beq_eq_false_iff_ne.mpr c7
   have c7b1 : (a1 != 0) = true := bne_iff_ne.mpr c7
   simp only [Option.some.injEq, Prod.mk.injEq] at H
   obtain ⟨rfl, rfl, rfl⟩ := H
   obtain ⟨ASz8_0, cSz8_0, HGz8, hgz8, HSz8_0⟩ := HI0.out
   have hcz8_0 := cellS56_0 HGz8
   have hcz8_1 := cellS56_1 HGz8
   have hcz8_2 := cellS56_2 HGz8
   have hfz8_1 := blk_frozen HGz8 1
   have hfz8_2 := blk_frozen HGz8 2
   clear HGz8 hgz8
   go_enter Try.func17, Try.ntmps17
   go_wp2
   repeat (go_quiet (fail); try go_wp2)
   go_ret
   exact ⟨er_, is56_ HI0.out, by repeat (first | (with_reducible first | exact HB.out | apply below_alloc | apply pw_below_drewN | apply below_drew1 | refine below_set ?_ (IsS56.ge HI0.out)) | exact HB.out), kb0_⟩

/-! ### laws_FnOneSided: function 3 -/
def laws_FnOneSided.j0 : Nat → List Int → List (S49) → List (S49) → Int → List (S49) → Bool → Option (Bool)
 | 0, _, _, _, _, _, _ => none
 | k + 1, x0, x3, x4, x5, x8, x85 => if x85 = true then (some false) else (if x5 = 0 then ((laws_roll.f k x0 303).bind fun bt497 => ((laws_dice_below.f bt497.1 bt497.2.1 bt497.2.2 4).bind fun bt501 => ((impl_TurnShape.f k x3 bt501.1).bind fun bt504 => ((impl_OneSidedForm.f k bt504.1).bind fun bt508 => (if bt504.2 = 0 then (if bt508.2 = 0 then ((laws_likeCells.f k bt508.1 x4).bind fun t512 => (if t512 = true then ((impl_CompareShapes.f x8 x4).bind fun t513 => (some (decide (t513 ≤ 0)))) else (some false))) else (some false)) else (some false)))))) else (some true))
def laws_FnOneSided.f (k : Nat) (l0 : List Int) : Option (Bool) := (laws_big.f l0).bind fun t465 => (if t465 = true then (some true) else ((spec_DrawOneSidedForm.f k l0).bind fun t466 => ((impl_OneSidedForm.f k t466).bind fun bt469 => ((spec_OneSidedForm.f k t466).bind fun bt473 => ((impl_FreeForm.f k t466).bind fun bt477 => ((spec_FreeForm.f k t466).bind fun bt481 => ((spec_DrawCompareShapes.f k l0).bind fun bt485 => (if bt469.2 = bt473.2 then ((laws_likeCells.f k bt469.1 bt473.1).bind fun t491 => (if t491 = true then (if bt477.2 = bt481.2 then ((laws_likeCells.f k bt477.1 bt481.1).bind fun t492 => (if t492 = true then ((impl_CompareShapes.f bt485.1 bt485.2).bind fun t493 => ((spec_CompareShapes.f k bt485.1 bt485.2).bind fun t494 => (if t493 = t494 then ((impl_CompareShapes.f bt485.2 bt485.1).bind fun t495 => ((impl_CompareShapes.f bt485.1 bt485.2).bind fun t496 => (laws_FnOneSided.j0 k l0 t466 bt469.1 bt469.2 bt477.1 (t495 != (wrap64 (-t496)))))) else (laws_FnOneSided.j0 k l0 t466 bt469.1 bt469.2 bt477.1 true)))) else (laws_FnOneSided.j0 k l0 t466 bt469.1 bt469.2 bt477.1 true))) else (laws_FnOneSided.j0 k l0 t466 bt469.1 bt469.2 bt477.1 true)) else (laws_FnOneSided.j0 k l0 t466 bt469.1 bt469.2 bt477.1 true))) else (laws_FnOneSided.j0 k l0 t466 bt469.1 bt469.2 bt477.1 true)))))))))
theorem laws_FnOneSided.mono_l : ∀ k, (∀ y0 y1 y2 y3 y4 y5, LeO (laws_FnOneSided.j0 k y0 y1 y2 y3 y4 y5) (laws_FnOneSided.j0 (k + 1) y0 y1 y2 y3 y4 y5))
 | 0 => fun _ _ _ _ _ _ r h => by simp [laws_FnOneSided.j0] at h
 | k + 1 => by
  have ih0 := laws_FnOneSided.mono_l k
  ·intro y0 y1 y2 y3 y4 y5
   unfold laws_FnOneSided.j0
   repeat' first
   | (with_reducible exact ih0 _ _ _ _ _ _)
   | (with_reducible exact impl_FreeForm.mono _ _)
   | (with_reducible exact impl_OneSidedForm.mono _ _)
   | (with_reducible exact impl_TurnShape.mono _ _ _)
   | (with_reducible exact laws_likeCells.mono _ _ _)
   | (with_reducible exact laws_roll.mono _ _ _)
   | (with_reducible exact spec_CompareShapes.mono _ _ _)
   | (with_reducible exact spec_DrawCompareShapes.mono _ _)
   | (with_reducible exact spec_DrawOneSidedForm.mono _ _)
   | (with_reducible exact spec_FreeForm.mono _ _)
   | (with_reducible exact spec_OneSidedForm.mono _ _)
   | (with_reducible exact LeO.refl _)
   | (with_reducible exact LeO.none _)
   | (with_reducible refine LeO.ite ?_ ?_)
   | (with_reducible refine LeO.bind ?_ (fun _ => ?_))
   | exact ih0 _ _ _ _ _ _
   | exact impl_FreeForm.mono _ _
   | exact impl_OneSidedForm.mono _ _
   | exact impl_TurnShape.mono _ _ _
   | exact laws_likeCells.mono _ _ _
   | exact laws_roll.mono _ _ _
   | exact spec_CompareShapes.mono _ _ _
   | exact spec_DrawCompareShapes.mono _ _
   | exact spec_DrawOneSidedForm.mono _ _
   | exact spec_FreeForm.mono _ _
   | exact spec_OneSidedForm.mono _ _
   | exact LeO.none _
   | refine LeO.ite ?_ ?_
   | refine LeO.bind ?_ (fun _ => ?_)
theorem laws_FnOneSided.mono : ∀ a0 k, LeO (laws_FnOneSided.f k a0) (laws_FnOneSided.f (k + 1) a0) := by
 intro a0 k
 have ih0 := laws_FnOneSided.mono_l k
 unfold laws_FnOneSided.f
 repeat' first
   | (with_reducible exact ih0 _ _ _ _ _ _)
   | (with_reducible exact impl_FreeForm.mono _ _)
   | (with_reducible exact impl_OneSidedForm.mono _ _)
   | (with_reducible exact impl_TurnShape.mono _ _ _)
   | (with_reducible exact laws_likeCells.mono _ _ _)
   | (with_reducible exact laws_roll.mono _ _ _)
   | (with_reducible exact spec_CompareShapes.mono _ _ _)
   | (with_reducible exact spec_DrawCompareShapes.mono _ _)
   | (with_reducible exact spec_DrawOneSidedForm.mono _ _)
   | (with_reducible exact spec_FreeForm.mono _ _)
   | (with_reducible exact spec_OneSidedForm.mono _ _)
   | (with_reducible exact LeO.refl _)
   | (with_reducible exact LeO.none _)
   | (with_reducible refine LeO.ite ?_ ?_)
   | (with_reducible refine LeO.bind ?_ (fun _ => ?_))
   | exact ih0 _ _ _ _ _ _
   | exact impl_FreeForm.mono _ _
   | exact impl_OneSidedForm.mono _ _
   | exact impl_TurnShape.mono _ _ _
   | exact laws_likeCells.mono _ _ _
   | exact laws_roll.mono _ _ _
   | exact spec_CompareShapes.mono _ _ _
   | exact spec_DrawCompareShapes.mono _ _
   | exact spec_DrawOneSidedForm.mono _ _
   | exact spec_FreeForm.mono _ _
   | exact spec_OneSidedForm.mono _ _
   | exact LeO.none _
   | refine LeO.ite ?_ ?_
   | refine LeO.bind ?_ (fun _ => ?_)
set_option maxHeartbeats 8000000 in
set_option maxRecDepth 100000 in
theorem laws_FnOneSided.calls (k : Nat) (A0 : Option Addr) (c0 : Nat) (l0 : List Int) (r : Bool) (w : World) (hr0 : Kd.C (Kd.int .u8) w A0 l0.length l0) (hc0 : l0.length ≤ c0) (h : laws_FnOneSided.f k l0 = some r) :
  Calls Try.prog 3 #[.slice A0 l0.length c0] w fun e w' => e = .returned (.bool r) ∧ Below w.heap.size w w' := by
 have HR0 := Aside0.mk hr0
 have HC0 := Aside0.mk hc0
 clear hr0 hc0
 have HB := Aside0.mk (Below.refl w.heap.size w)
 have H : ((laws_big.f l0).bind fun t465 => (if t465 = true then (some true) else ((spec_DrawOneSidedForm.f k l0).bind fun t466 => ((impl_OneSidedForm.f k t466).bind fun bt469 => ((spec_OneSidedForm.f k t466).bind fun bt473 => ((impl_FreeForm.f k t466).bind fun bt477 => ((spec_FreeForm.f k t466).bind fun bt481 => ((spec_DrawCompareShapes.f k l0).bind fun bt485 => (if bt469.2 = bt473.2 then ((laws_likeCells.f k bt469.1 bt473.1).bind fun t491 => (if t491 = true then (if bt477.2 = bt481.2 then ((laws_likeCells.f k bt477.1 bt481.1).bind fun t492 => (if t492 = true then ((impl_CompareShapes.f bt485.1 bt485.2).bind fun t493 => ((spec_CompareShapes.f k bt485.1 bt485.2).bind fun t494 => (if t493 = t494 then ((impl_CompareShapes.f bt485.2 bt485.1).bind fun t495 => ((impl_CompareShapes.f bt485.1 bt485.2).bind fun t496 => (laws_FnOneSided.j0 k l0 t466 bt469.1 bt469.2 bt477.1 (t495 != (wrap64 (-t496)))))) else (laws_FnOneSided.j0 k l0 t466 bt469.1 bt469.2 bt477.1 true)))) else (laws_FnOneSided.j0 k l0 t466 bt469.1 bt469.2 bt477.1 true))) else (laws_FnOneSided.j0 k l0 t466 bt469.1 bt469.2 bt477.1 true)) else (laws_FnOneSided.j0 k l0 t466 bt469.1 bt469.2 bt477.1 true))) else (laws_FnOneSided.j0 k l0 t466 bt469.1 bt469.2 bt477.1 true)))))))))) = some r := h
 clear h
 replace H := Option.bind_eq_some_iff.mp H
 obtain ⟨t465, A20, H⟩ := H
 replace H : (if t465 = true then (some true) else ((spec_DrawOneSidedForm.f k l0).bind fun t466 => ((impl_OneSidedForm.f k t466).bind fun bt469 => ((spec_OneSidedForm.f k t466).bind fun bt473 => ((impl_FreeForm.f k t466).bind fun bt477 => ((spec_FreeForm.f k t466).bind fun bt481 => ((spec_DrawCompareShapes.f k l0).bind fun bt485 => (if bt469.2 = bt473.2 then ((laws_likeCells.f k bt469.1 bt473.1).bind fun t491 => (if t491 = true then (if bt477.2 = bt481.2 then ((laws_likeCells.f k bt477.1 bt481.1).bind fun t492 => (if t492 = true then ((impl_CompareShapes.f bt485.1 bt485.2).bind fun t493 => ((spec_CompareShapes.f k bt485.1 bt485.2).bind fun t494 => (if t493 = t494 then ((impl_CompareShapes.f bt485.2 bt485.1).bind fun t495 => ((impl_CompareShapes.f bt485.1 bt485.2).bind fun t496 => (laws_FnOneSided.j0 k l0 t466 bt469.1 bt469.2 bt477.1 (t495 != (wrap64 (-t496)))))) else (laws_FnOneSided.j0 k l0 t466 bt469.1 bt469.2 bt477.1 true)))) else (laws_FnOneSided.j0 k l0 t466 bt469.1 bt469.2 bt477.1 true))) else (laws_FnOneSided.j0 k l0 t466 bt469.1 bt469.2 bt477.1 true)) else (laws_FnOneSided.j0 k l0 t466 bt469.1 bt469.2 bt477.1 true))) else (laws_FnOneSided.j0 k l0 t466 bt469.1 bt469.2 bt477.1 true))))))))) = some r := H
 have A2 := Aside0.mk A20
 clear A20
 by_cases c3 : t465 = true
 ·subst c3
  have H1 : (some true) = some r := by rw [if_pos rfl] at H; exact H
  clear H
  have H := H1
  clear H1
  obtain rfl := Option.some.inj H
  go_enter Try.func3, Try.ntmps3
  go_wp2_with (first | ((with_reducible refine gate_callee (f := 5) rfl ?_); refine goesL_ (some 19) rfl rfl Try.func5 kr_ rfl #[.slice A0 l0.length c0] rfl ta_ ?_; (with_reducible refine (laws_big.calls _ _ l0 true _ ?side1 ?side2 A2.out).mono ?_); (case side1 => exact ca_ HR0.out); (case side2 => exact HC0.out); rintro e w' ⟨rfl, ⟨nd, rfl⟩⟩; refine ⟨_, rfl, ?_⟩))
  go_ret
  exact ⟨er_, bl0_⟩
 ·replace c3 := Bool.eq_false_iff.mpr c3
  subst c3
  have H1 : ((spec_DrawOneSidedForm.f k l0).bind fun t466 => ((impl_OneSidedForm.f k t466).bind fun bt469 => ((spec_OneSidedForm.f k t466).bind fun bt473 => ((impl_FreeForm.f k t466).bind fun bt477 => ((spec_FreeForm.f k t466).bind fun bt481 => ((spec_DrawCompareShapes.f k l0).bind fun bt485 => (if bt469.2 = bt473.2 then ((laws_likeCells.f k bt469.1 bt473.1).bind fun t491 => (if t491 = true then (if bt477.2 = bt481.2 then ((laws_likeCells.f k bt477.1 bt481.1).bind fun t492 => (if t492 = true then ((impl_CompareShapes.f bt485.1 bt485.2).bind fun t493 => ((spec_CompareShapes.f k bt485.1 bt485.2).bind fun t494 => (if t493 = t494 then ((impl_CompareShapes.f bt485.2 bt485.1).bind fun t495 => ((impl_CompareShapes.f bt485.1 bt485.2).bind fun t496 => (laws_FnOneSided.j0 k l0 t466 bt469.1 bt469.2 bt477.1 (t495 != (wrap64 (-t496)))))) else (laws_FnOneSided.j0 k l0 t466 bt469.1 bt469.2 bt477.1 true)))) else (laws_FnOneSided.j0 k l0 t466 bt469.1 bt469.2 bt477.1 true))) else (laws_FnOneSided.j0 k l0 t466 bt469.1 bt469.2 bt477.1 true)) else (laws_FnOneSided.j0 k l0 t466 bt469.1 bt469.2 bt477.1 true))) else (laws_FnOneSided.j0 k l0 t466 bt469.1 bt469.2 bt477.1 true)))))))) = some r := by rw [if_neg (show ¬ (false = true) by decide)] at H; exact H
  clear H
  have H := H1
  clear H1
  replace H := Option.bind_eq_some_iff.mp H
  obtain ⟨t466, A40, H⟩ := H
  replace H : ((impl_OneSidedForm.f k t466).bind fun bt469 => ((spec_OneSidedForm.f k t466).bind fun bt473 => ((impl_FreeForm.f k t466).bind fun bt477 => ((spec_FreeForm.f k t466).bind fun bt481 => ((spec_DrawCompareShapes.f k l0).bind fun bt485 => (if bt469.2 = bt473.2 then ((laws_likeCells.f k bt469.1 bt473.1).bind fun t491 => (if t491 = true then (if bt477.2 = bt481.2 then ((laws_likeCells.f k bt477.1 bt481.1).bind fun t492 => (if t492 = true then ((impl_CompareShapes.f bt485.1 bt485.2).bind fun t493 => ((spec_CompareShapes.f k bt485.1 bt485.2).bind fun t494 => (if t493 = t494 then ((impl_CompareShapes.f bt485.2 bt485.1).bind fun t495 => ((impl_CompareShapes.f bt485.1 bt485.2).bind fun t496 => (laws_FnOneSided.j0 k l0 t466 bt469.1 bt469.2 bt477.1 (t495 != (wrap64 (-t496)))))) else (laws_FnOneSided.j0 k l0 t466 bt469.1 bt469.2 bt477.1 true)))) else (laws_FnOneSided.j0 k l0 t466 bt469.1 bt469.2 bt477.1 true))) else (laws_FnOneSided.j0 k l0 t466 bt469.1 bt469.2 bt477.1 true)) else (laws_FnOneSided.j0 k l0 t466 bt469.1 bt469.2 bt477.1 true))) else (laws_FnOneSided.j0 k l0 t466 bt469.1 bt469.2 bt477.1 true))))))) = some r := H
  have A4 := Aside0.mk A40
  clear A40
  replace H := Option.bind_eq_some_iff.mp H
  obtain ⟨⟨t469, t470⟩, A50, H⟩ := H
  replace H : ((spec_OneSidedForm.f k t466).bind fun bt473 => ((impl_FreeForm.f k t466).bind fun bt477 => ((spec_FreeForm.f k t466).bind fun bt481 => ((spec_DrawCompareShapes.f k l0).bind fun bt485 => (if t470 = bt473.2 then ((laws_likeCells.f k t469 bt473.1).bind fun t491 => (if t491 = true then (if bt477.2 = bt481.2 then ((laws_likeCells.f k bt477.1 bt481.1).bind fun t492 => (if t492 = true then ((impl_CompareShapes.f bt485.1 bt485.2).bind fun t493 => ((spec_CompareShapes.f k bt485.1 bt485.2).bind fun t494 => (if t493 = t494 then ((impl_CompareShapes.f bt485.2 bt485.1).bind fun t495 => ((impl_CompareShapes.f bt485.1 bt485.2).bind fun t496 => (laws_FnOneSided.j0 k l0 t466 t469 t470 bt477.1 (t495 != (wrap64 (-t496)))))) else (laws_FnOneSided.j0 k l0 t466 t469 t470 bt477.1 true)))) else (laws_FnOneSided.j0 k l0 t466 t469 t470 bt477.1 true))) else (laws_FnOneSided.j0 k l0 t466 t469 t470 bt477.1 true)) else (laws_FnOneSided.j0 k l0 t466 t469 t470 bt477.1 true))) else (laws_FnOneSided.j0 k l0 t466 t469 t470 bt477.1 true)))))) = some r := H
  have A5 := Aside0.mk A50
  clear A50
  replace H := Option.bind_eq_some_iff.mp H
  obtain ⟨⟨t473, t476⟩, A60, H⟩ := H
  replace H : ((impl_FreeForm.f k t466).bind fun bt477 => ((spec_FreeForm.f k t466).bind fun bt481 => ((spec_DrawCompareShapes.f k l0).bind fun bt485 => (if t470 = t476 then ((laws_likeCells.f k t469 t473).bind fun t491 => (if t491 = true then (if bt477.2 = bt481.2 then ((laws_likeCells.f k bt477.1 bt481.1).bind fun t492 => (if t492 = true then ((impl_CompareShapes.f bt485.1 bt485.2).bind fun t493 => ((spec_CompareShapes.f k bt485.1 bt485.2).bind fun t494 => (if t493 = t494 then ((impl_CompareShapes.f bt485.2 bt485.1).bind fun t495 => ((impl_CompareShapes.f bt485.1 bt485.2).bind fun t496 => (laws_FnOneSided.j0 k l0 t466 t469 t470 bt477.1 (t495 != (wrap64 (-t496)))))) else (laws_FnOneSided.j0 k l0 t466 t469 t470 bt477.1 true)))) else (laws_FnOneSided.j0 k l0 t466 t469 t470 bt477.1 true))) else (laws_FnOneSided.j0 k l0 t466 t469 t470 bt477.1 true)) else (laws_FnOneSided.j0 k l0 t466 t469 t470 bt477.1 true))) else (laws_FnOneSided.j0 k l0 t466 t469 t470 bt477.1 true))))) = some r := H
  have A6 := Aside0.mk A60
  clear A60
  replace H := Option.bind_eq_some_iff.mp H
  obtain ⟨⟨t477, t478⟩, A70, H⟩ := H
  replace H : ((spec_FreeForm.f k t466).bind fun bt481 => ((spec_DrawCompareShapes.f k l0).bind fun bt485 => (if t470 = t476 then ((laws_likeCells.f k t469 t473).bind fun t491 => (if t491 = true then (if t478 = bt481.2 then ((laws_likeCells.f k t477 bt481.1).bind fun t492 => (if t492 = true then ((impl_CompareShapes.f bt485.1 bt485.2).bind fun t493 => ((spec_CompareShapes.f k bt485.1 bt485.2).bind fun t494 => (if t493 = t494 then ((impl_CompareShapes.f bt485.2 bt485.1).bind fun t495 => ((impl_CompareShapes.f bt485.1 bt485.2).bind fun t496 => (laws_FnOneSided.j0 k l0 t466 t469 t470 t477 (t495 != (wrap64 (-t496)))))) else (laws_FnOneSided.j0 k l0 t466 t469 t470 t477 true)))) else (laws_FnOneSided.j0 k l0 t466 t469 t470 t477 true))) else (laws_FnOneSided.j0 k l0 t466 t469 t470 t477 true)) else (laws_FnOneSided.j0 k l0 t466 t469 t470 t477 true))) else (laws_FnOneSided.j0 k l0 t466 t469 t470 t477 true)))) = some r := H
  have A7 := Aside0.mk A70
  clear A70
  replace H := Option.bind_eq_some_iff.mp H
  obtain ⟨⟨t481, t484⟩, A80, H⟩ := H
  replace H : ((spec_DrawCompareShapes.f k l0).bind fun bt485 => (if t470 = t476 then ((laws_likeCells.f k t469 t473).bind fun t491 => (if t491 = true then (if t478 = t484 then ((laws_likeCells.f k t477 t481).bind fun t492 => (if t492 = true then ((impl_CompareShapes.f bt485.1 bt485.2).bind fun t493 => ((spec_CompareShapes.f k bt485.1 bt485.2).bind fun t494 => (if t493 = t494 then ((impl_CompareShapes.f bt485.2 bt485.1).bind fun t495 => ((impl_CompareShapes.f bt485.1 bt485.2).bind fun t496 => (laws_FnOneSided.j0 k l0 t466 t469 t470 t477 (t495 != (wrap64 (-t496)))))) else (laws_FnOneSided.j0 k l0 t466 t469 t470 t477 true)))) else (laws_FnOneSided.j0 k l0 t466 t469 t470 t477 true))) else (laws_FnOneSided.j0 k l0 t466 t469 t470 t477 true)) else (laws_FnOneSided.j0 k l0 t466 t469 t470 t477 true))) else (laws_FnOneSided.j0 k l0 t466 t469 t470 t477 true))) = some r := H
  have A8 := Aside0.mk A80
  clear A80
  replace H := Option.bind_eq_some_iff.mp H
  obtain ⟨⟨t485, t488⟩, A90, H⟩ := H
  replace H : (if t470 = t476 then ((laws_likeCells.f k t469 t473).bind fun t491 => (if t491 = true then (if t478 = t484 then ((laws_likeCells.f k t477 t481).bind fun t492 => (if t492 = true then ((impl_CompareShapes.f t485 t488).bind fun t493 => ((spec_CompareShapes.f k t485 t488).bind fun t494 => (if t493 = t494 then ((impl_CompareShapes.f t488 t485).bind fun t495 => ((impl_CompareShapes.f t485 t488).bind fun t496 => (laws_FnOneSided.j0 k l0 t466 t469 t470 t477 (t495 != (wrap64 (-t496)))))) else (laws_FnOneSided.j0 k l0 t466 t469 t470 t477 true)))) else (laws_FnOneSided.j0 k l0 t466 t469 t470 t477 true))) else (laws_FnOneSided.j0 k l0 t466 t469 t470 t477 true)) else (laws_FnOneSided.j0 k l0 t466 t469 t470 t477 true))) else (laws_FnOneSided.j0 k l0 t466 t469 t470 t477 true)) = some r := H
  have A9 := Aside0.mk A90
  clear A90
  have HC10 := Aside0.mk H
  clear H
  go_enter Try.func3, Try.ntmps3
  go_upto_region 9 with (first | ((with_reducible refine gate_callee (f := 5) rfl ?_); refine goesL_ (some 19) rfl rfl Try.func5 kr_ rfl #[.slice A0 l0.length c0] rfl ta_ ?_; (with_reducible refine (laws_big.calls _ _ l0 false _ ?side1 ?side2 A2.out).mono ?_); (case side1 => exact ca_ HR0.out); (case side2 => exact HC0.out); rintro e w' ⟨rfl, ⟨nd, rfl⟩⟩; refine ⟨_, rfl, ?_⟩) | ((with_reducible refine gate_callee (f := 6) rfl ?_); refine goesL_ (some 21) rfl rfl Try.func6 kr_ rfl #[.slice A0 l0.length c0] rfl ta_ ?_; (with_reducible refine (spec_DrawOneSidedForm.calls k _ _ l0 t466 _ ?side1 ?side2 A4.out).mono ?_); (case side1 => exact ca_ HR0.out); (case side2 => exact HC0.out); rintro e w11 ⟨v467, rfl, ho0, hb⟩; refine ⟨_, rfl, ?_⟩; have n0_ := Aside0.mk (Kd.R_lower ho0 (below_size (bl0_))); have n1_ := Aside0.mk (below_step (bl0_) hb); clear HB; have HO468 := n0_; have HB := n1_; clear n0_ n1_; (try clear hb); (try clear hb2); (try clear hk); (try clear hi); (try clear ho0); obtain ⟨Ao12, co12, eo12⟩ := Kd.R_slice HO468.out; subst eo12) | ((with_reducible refine gate_callee (f := 7) rfl ?_); refine goesL_ (some 24) rfl rfl Try.func7 kr_ rfl #[.slice Ao12 t466.length co12] rfl ta_ ?_; (with_reducible refine (impl_OneSidedForm.calls k _ _ t466 t469 t470 _ ?side1 ?side2 A5.out).mono ?_); (case side1 => exact ca_ (Kd.R_reads' HO468.out).2.2); (case side2 => exact (Kd.R_reads' HO468.out).2.1); rintro e w13 ⟨v471, rfl, ho0, hb⟩; refine ⟨_, rfl, ?_⟩; have n0_ := Aside0.mk (Kd.R_elder' (ra_ HO468.out) (Kd.R_base ho0) hb); have n1_ := Aside0.mk (Kd.R_lower (Kd.R_new' ho0 (Kd.R_lt (ra_ HO468.out))) (below_size (bl0_))); have n2_ := Aside0.mk (below_step (bl0_) hb); clear HO468; clear HB; have HO468 := n0_; have HO472 := n1_; have HB := n2_; clear n0_ n1_ n2_; (try clear hb); (try clear hb2); (try clear hk); (try clear hi); (try clear ho0)) | ((with_reducible refine gate_callee (f := 8) rfl ?_); refine goesL_ (some 29) rfl rfl Try.func8 kr_ rfl #[.slice Ao12 t466.length co12] rfl ta_ ?_; (with_reducible refine (spec_OneSidedForm.calls k _ _ t466 t473 t476 _ ?side1 ?side2 A6.out).mono ?_); (case side1 => exact ca_ (Kd.R_reads' HO468.out).2.2); (case side2 => exact (Kd.R_reads' HO468.out).2.1); rintro e w14 ⟨v474, rfl, ho0, hb⟩; refine ⟨_, rfl, ?_⟩; have n0_ := Aside0.mk (Kd.R_below (ra_ HO468.out) hb); have n1_ := Aside0.mk (Kd.R_below (ra_ HO472.out) hb); have n2_ := Aside0.mk (Kd.V_lower (Kd.V_mono (ok' := fun k_ => some k_ ≠ (.slice Ao12 t466.length co12 : Value).ownBlock ∧ some k_ ≠ (v471 : Value).ownBlock) ho0 (fun k_ hk_ => ⟨(Kd.fresh' (Kd.R_lt (ra_ HO468.out)) k_ hk_), (Kd.fresh' (Kd.R_lt (ra_ HO472.out)) k_ hk_)⟩)) (below_size (bl0_))); have n3_ := Aside0.mk (below_step (bl0_) hb); clear HO468; clear HO472; clear HB; have HO468 := n0_; have HO472 := n1_; have HO475 := n2_; have HB := n3_; clear n0_ n1_ n2_ n3_; (try clear hb); (try clear hb2); (try clear hk); (try clear hi); (try clear ho0)) | ((with_reducible refine gate_callee (f := 9) rfl ?_); refine goesL_ (some 34) rfl rfl Try.func9 kr_ rfl #[.slice Ao12 t466.length co12] rfl ta_ ?_; (with_reducible refine (impl_FreeForm.calls k _ _ t466 t477 t478 _ ?side1 ?side2 A7.out).mono ?_); (case side1 => exact ca_ (Kd.R_reads' HO468.out).2.2); (case side2 => exact (Kd.R_reads' HO468.out).2.1); rintro e w15 ⟨v479, rfl, ho0, hb⟩; refine ⟨_, rfl, ?_⟩; have n0_ := Aside0.mk (Kd.R_elder' (ra_ HO468.out) (Kd.R_base ho0) hb); have n1_ := Aside0.mk (Kd.R_elder' (ra_ HO472.out) (Kd.R_base ho0) hb); have n2_ := Aside0.mk (Kd.V_elder' (by (with_reducible repeat (first | apply Kd.V_alloc | apply Kd.V_drewN | apply Kd.V_drew)); exact HO475.out) (Kd.R_base ho0) hb); have n3_ := Aside0.mk (Kd.R_lower (Kd.R_new' (Kd.R_new' ho0 (Kd.R_lt (ra_ HO468.out))) (Kd.R_lt (ra_ HO472.out))) (below_size (bl0_))); have n4_ := Aside0.mk (below_step (bl0_) hb); clear HO468; clear HO472; clear HO475; clear HB; have HO468 := n0_; have HO472 := n1_; have HO475 := n2_; have HO480 := n3_; have HB := n4_; clear n0_ n1_ n2_ n3_ n4_; (try clear hb); (try clear hb2); (try clear hk); (try clear hi); (try clear ho0)) | ((with_reducible refine gate_callee (f := 10) rfl ?_); refine goesL_ (some 39) rfl rfl Try.func10 kr_ rfl #[.slice Ao12 t466.length co12] rfl ta_ ?_; (with_reducible refine (spec_FreeForm.calls k _ _ t466 t481 t484 _ ?side1 ?side2 A8.out).mono ?_); (case side1 => exact ca_ (Kd.R_reads' HO468.out).2.2); (case side2 => exact (Kd.R_reads' HO468.out).2.1); rintro e w16 ⟨v482, rfl, ho0, hb⟩; refine ⟨_, rfl, ?_⟩; have n0_ := Aside0.mk (Kd.R_below (ra_ HO468.out) hb); have n1_ := Aside0.mk (Kd.R_below (ra_ HO472.out) hb); have n2_ := Aside0.mk (Kd.V_below (by (with_reducible repeat (first | apply Kd.V_alloc | apply Kd.V_drewN | apply Kd.V_drew)); exact HO475.out) hb); have n3_ := Aside0.mk (Kd.R_below (ra_ HO480.out) hb); have n4_ := Aside0.mk (Kd.V_lower (Kd.V_mono (ok' := fun k_ => some k_ ≠ (.slice Ao12 t466.length co12 : Value).ownBlock ∧ some k_ ≠ (v471 : Value).ownBlock ∧ some k_ ≠ (v479 : Value).ownBlock) ho0 (fun k_ hk_ => ⟨(Kd.fresh' (Kd.R_lt (ra_ HO468.out)) k_ hk_), (Kd.fresh' (Kd.R_lt (ra_ HO472.out)) k_ hk_), (Kd.fresh' (Kd.R_lt (ra_ HO480.out)) k_ hk_)⟩)) (below_size (bl0_))); have n5_ := Aside0.mk (below_step (bl0_) hb); clear HO468; clear HO472; clear HO475; clear HO480; clear HB; have HO468 := n0_; have HO472 := n1_; have HO475 := n2_; have HO480 := n3_; have HO483 := n4_; have HB := n5_; clear n0_ n1_ n2_ n3_ n4_ n5_; (try clear hb); (try clear hb2); (try clear hk); (try clear hi); (try clear ho0)) | ((with_reducible refine gate_callee (f := 11) rfl ?_); refine goesL_ (some 44) rfl rfl Try.func11 kr_ rfl #[.slice A0 l0.length c0] rfl ta_ ?_; (with_reducible refine (spec_DrawCompareShapes.calls k _ _ l0 t485 t488 _ ?side1 ?side2 A9.out).mono ?_); (case side1 => exact ca_ (Kd.C_below HR0.out HB.out)); (case side2 => exact HC0.out); rintro e w17 ⟨v486, v489, rfl, ho0, ho1, hb⟩; refine ⟨_, rfl, ?_⟩; have n0_ := Aside0.mk (Kd.R_below (ra_ HO468.out) hb); have n1_ := Aside0.mk (Kd.R_below (ra_ HO472.out) hb); have n2_ := Aside0.mk (Kd.V_below (by (with_reducible repeat (first | apply Kd.V_alloc | apply Kd.V_drewN | apply Kd.V_drew)); exact HO475.out) hb); have n3_ := Aside0.mk (Kd.R_below (ra_ HO480.out) hb); have n4_ := Aside0.mk (Kd.V_below (by (with_reducible repeat (first | apply Kd.V_alloc | apply Kd.V_drewN | apply Kd.V_drew)); exact HO483.out) hb); have n5_ := Aside0.mk (Kd.V_lower (Kd.V_mono (ok' := fun k_ => some k_ ≠ (.slice Ao12 t466.length co12 : Value).ownBlock ∧ some k_ ≠ (v471 : Value).ownBlock ∧ some k_ ≠ (v479 : Value).ownBlock) ho0 (fun k_ hk_ => ⟨(Kd.fresh' (Kd.R_lt (ra_ HO468.out)) k_ hk_), (Kd.fresh' (Kd.R_lt (ra_ HO472.out)) k_ hk_), (Kd.fresh' (Kd.R_lt (ra_ HO480.out)) k_ hk_)⟩)) (below_size (bl0_))); have n6_ := Aside0.mk (Kd.V_lower (Kd.V_mono (ok' := fun k_ => some k_ ≠ (.slice Ao12 t466.length co12 : Value).ownBlock ∧ some k_ ≠ (v471 : Value).ownBlock ∧ some k_ ≠ (v479 : Value).ownBlock) ho1 (fun k_ hk_ => ⟨(Kd.fresh' (Kd.R_lt (ra_ HO468.out)) k_ hk_), (Kd.fresh' (Kd.R_lt (ra_ HO472.out)) k_ hk_), (Kd.fresh' (Kd.R_lt (ra_ HO480.out)) k_ hk_)⟩)) (below_size (bl0_))); have n7_ := Aside0.mk (below_step (bl0_) hb); clear HO468; clear HO472; clear HO475; clear HO480; clear HO483; clear HB; have HO468 := n0_; have HO472 := n1_; have HO475 := n2_; have HO480 := n3_; have HO483 := n4_; have HO487 := n5_; have HO490 := n6_; have HB := n7_; clear n0_ n1_ n2_ n3_ n4_ n5_ n6_ n7_; (try clear hb); (try clear hb2); (try clear hk); (try clear hi); (try clear ho0); (try clear ho1)))
  (try simp only [Act.put, List.setIfInBounds_toArray, List.set_cons_zero, List.set_cons_succ])
  go_cut [85] (fun v85 wc => ∃ (kq : Nat) (x85_9 : Bool), v85 = .bool x85_9 ∧ Aside0 (laws_FnOneSided.j0 kq l0 t466 t469 t470 t477 x85_9 = some r) ∧ Aside0 (kq ≤ k) ∧ Aside0 (Kd.R k49 49 wc w.heap.size (fun k_ => some k_ ≠ (v471 : Value).ownBlock ∧ some k_ ≠ (v479 : Value).ownBlock) (.slice Ao12 t466.length co12) t466) ∧ Aside0 (Kd.R k49 49 wc w.heap.size (fun k_ => some k_ ≠ ((.slice Ao12 t466.length co12) : Value).ownBlock ∧ some k_ ≠ (v479 : Value).ownBlock) v471 t469) ∧ Aside0 (Kd.R k49 49 wc w.heap.size (fun k_ => some k_ ≠ ((.slice Ao12 t466.length co12) : Value).ownBlock ∧ some k_ ≠ (v471 : Value).ownBlock) v479 t477) ∧ Aside0 (Below w.heap.size w wc))
  case first =>
   have H := HC10.out
   clear HC10
   by_cases c18 : t470 = t476
   ·rw [if_pos c18] at H
    have c18b0 : (t470 == t476) = true := beq_iff_eq.mpr c18
    have c18b1 : (t470 != t476) = false := bne_eq_false_iff_eq.mpr c18
    clear c18
    (first | rw [c18b0] | (simp only [i64_w, i32_w]; rw [c18b0]) | skip)
    replace H := Option.bind_eq_some_iff.mp H
    obtain ⟨t491, A190, H⟩ := H
    replace H : (if t491 = true then (if t478 = t484 then ((laws_likeCells.f k t477 t481).bind fun t492 => (if t492 = true then ((impl_CompareShapes.f t485 t488).bind fun t493 => ((spec_CompareShapes.f k t485 t488).bind fun t494 => (if t493 = t494 then ((impl_CompareShapes.f t488 t485).bind fun t495 => ((impl_CompareShapes.f t485 t488).bind fun t496 => (laws_FnOneSided.j0 k l0 t466 t469 t470 t477 (t495 != (wrap64 (-t496)))))) else (laws_FnOneSided.j0 k l0 t466 t469 t470 t477 true)))) else (laws_FnOneSided.j0 k l0 t466 t469 t470 t477 true))) else (laws_FnOneSided.j0 k l0 t466 t469 t470 t477 true)) else (laws_FnOneSided.j0 k l0 t466 t469 t470 t477 true)) = some r := H
    have A19 := Aside0.mk A190
    clear A190
    by_cases c20 : t491 = true
    ·subst c20
     have H1 : (if t478 = t484 then ((laws_likeCells.f k t477 t481).bind fun t492 => (if t492 = true then ((impl_CompareShapes.f t485 t488).bind fun t493 => ((spec_CompareShapes.f k t485 t488).bind fun t494 => (if t493 = t494 then ((impl_CompareShapes.f t488 t485).bind fun t495 => ((impl_CompareShapes.f t485 t488).bind fun t496 => (laws_FnOneSided.j0 k l0 t466 t469 t470 t477 (t495 != (wrap64 (-t496)))))) else (laws_FnOneSided.j0 k l0 t466 t469 t470 t477 true)))) else (laws_FnOneSided.j0 k l0 t466 t469 t470 t477 true))) else (laws_FnOneSided.j0 k l0 t466 t469 t470 t477 true)) = some r := by rw [if_pos rfl] at H; exact H
     clear H
     have H := H1
     clear H1
     by_cases c21 : t478 = t484
     ·rw [if_pos c21] at H
      have c21b0 : (t478 == t484) = true := beq_iff_eq.mpr c21
      have c21b1 : (t478 != t484) = false := bne_eq_false_iff_eq.mpr c21
      clear c21
      replace H := Option.bind_eq_some_iff.mp H
      obtain ⟨t492, A220, H⟩ := H
      replace H : (if t492 = true then ((impl_CompareShapes.f t485 t488).bind fun t493 => ((spec_CompareShapes.f k t485 t488).bind fun t494 => (if t493 = t494 then ((impl_CompareShapes.f t488 t485).bind fun t495 => ((impl_CompareShapes.f t485 t488).bind fun t496 => (laws_FnOneSided.j0 k l0 t466 t469 t470 t477 (t495 != (wrap64 (-t496)))))) else (laws_FnOneSided.j0 k l0 t466 t469 t470 t477 true)))) else (laws_FnOneSided.j0 k l0 t466 t469 t470 t477 true)) = some r := H
      have A22 := Aside0.mk A220
      clear A220
      by_cases c23 : t492 = true
      ·subst c23
       have H1 : ((impl_CompareShapes.f t485 t488).bind fun t493 => ((spec_CompareShapes.f k t485 t488).bind fun t494 => (if t493 = t494 then ((impl_CompareShapes.f t488 t485).bind fun t495 => ((impl_CompareShapes.f t485 t488).bind fun t496 => (laws_FnOneSided.j0 k l0 t466 t469 t470 t477 (t495 != (wrap64 (-t496)))))) else (laws_FnOneSided.j0 k l0 t466 t469 t470 t477 true)))) = some r := by rw [if_pos rfl] at H; exact H
       clear H
       have H := H1
       clear H1
       replace H := Option.bind_eq_some_iff.mp H
       obtain ⟨t493, A240, H⟩ := H
       replace H : ((spec_CompareShapes.f k t485 t488).bind fun t494 => (if t493 = t494 then ((impl_CompareShapes.f t488 t485).bind fun t495 => ((impl_CompareShapes.f t485 t488).bind fun t496 => (laws_FnOneSided.j0 k l0 t466 t469 t470 t477 (t495 != (wrap64 (-t496)))))) else (laws_FnOneSided.j0 k l0 t466 t469 t470 t477 true))) = some r := H
       have A24 := Aside0.mk A240
       clear A240
       replace H := Option.bind_eq_some_iff.mp H
       obtain ⟨t494, A250, H⟩ := H
       replace H : (if t493 = t494 then ((impl_CompareShapes.f t488 t485).bind fun t495 => ((impl_CompareShapes.f t485 t488).bind fun t496 => (laws_FnOneSided.j0 k l0 t466 t469 t470 t477 (t495 != (wrap64 (-t496)))))) else (laws_FnOneSided.j0 k l0 t466 t469 t470 t477 true)) = some r := H
       have A25 := Aside0.mk A250
       clear A250
       by_cases c26 : t493 = t494
       ·rw [if_pos c26] at H
        have c26b0 : (t493 == t494) = true := beq_iff_eq.mpr c26
        have c26b1 : (t493 != t494) = false := bne_eq_false_iff_eq.mpr c26
        clear c26
        replace H := Option.bind_eq_some_iff.mp H
        obtain ⟨t495, A270, H⟩ := H
        replace H : ((impl_CompareShapes.f t485 t488).bind fun t496 => (laws_FnOneSided.j0 k l0 t466 t469 t470 t477 (t495 != (wrap64 (-t496))))) = some r := H
        have A27 := Aside0.mk A270
        clear A270
        replace H := Option.bind_eq_some_iff.mp H
        obtain ⟨t496, A280, H⟩ := H
        replace H : (laws_FnOneSided.j0 k l0 t466 t469 t470 t477 (t495 != (wrap64 (-t496)))) = some r := H
        have A28 := Aside0.mk A280
        clear A280
        have H' := Aside0.mk H
        clear H
        obtain ⟨Ao29, co29, eo29⟩ := Kd.R_slice HO472.out
        subst eo29
        obtain ⟨Ao30, co30, eo30⟩ := Kd.V_slice HO475.out
        subst eo30
        go_wp2_with (first | (go_at_call 12; (with_reducible refine (laws_likeCells.calls k _ _ t469 _ _ t473 true _ ?side1 ?side2 ?side3 ?side4 A19.out).mono ?_); (case side1 => exact ca_ (Kd.R_reads' HO472.out).2.2); (case side2 => exact (Kd.R_reads' HO472.out).2.1); (case side3 => exact ca_ (Kd.V_reads' HO475.out).2.2); (case side4 => exact (Kd.V_reads' HO475.out).2.1); rintro e w' ⟨rfl, ⟨nd, rfl⟩⟩; obtain ⟨Ao31, co31, eo31⟩ := Kd.R_slice HO480.out; subst eo31; obtain ⟨Ao32, co32, eo32⟩ := Kd.V_slice HO483.out; subst eo32) | (go_at_call 12; (with_reducible refine (laws_likeCells.calls k _ _ t477 _ _ t481 true _ ?side1 ?side2 ?side3 ?side4 A22.out).mono ?_); (case side1 => exact ca_ (Kd.R_reads' HO480.out).2.2); (case side2 => exact (Kd.R_reads' HO480.out).2.1); (case side3 => exact ca_ (Kd.V_reads' HO483.out).2.2); (case side4 => exact (Kd.V_reads' HO483.out).2.1); rintro e w' ⟨rfl, ⟨nd, rfl⟩⟩; obtain ⟨Ao33, co33, eo33⟩ := Kd.V_slice HO487.out; subst eo33; obtain ⟨Ao34, co34, eo34⟩ := Kd.V_slice HO490.out; subst eo34) | (go_at_call 13; (with_reducible refine (impl_CompareShapes.calls _ _ t485 _ _ t488 t493 _ ?side1 ?side2 ?side3 ?side4 A24.out).mono ?_); (case side1 => exact ca_ (Kd.V_reads' HO487.out).2.2); (case side2 => exact (Kd.V_reads' HO487.out).2.1); (case side3 => exact ca_ (Kd.V_reads' HO490.out).2.2); (case side4 => exact (Kd.V_reads' HO490.out).2.1); rintro e w35 ⟨rfl, hb⟩; have n0_ := Aside0.mk (Kd.R_below (ra_ HO468.out) hb); have n1_ := Aside0.mk (Kd.R_below (ra_ HO472.out) hb); have n2_ := Aside0.mk (Kd.V_below (by (with_reducible repeat (first | apply Kd.V_alloc | apply Kd.V_drewN | apply Kd.V_drew)); exact HO475.out) hb); have n3_ := Aside0.mk (Kd.R_below (ra_ HO480.out) hb); have n4_ := Aside0.mk (Kd.V_below (by (with_reducible repeat (first | apply Kd.V_alloc | apply Kd.V_drewN | apply Kd.V_drew)); exact HO483.out) hb); have n5_ := Aside0.mk (Kd.V_below (by (with_reducible repeat (first | apply Kd.V_alloc | apply Kd.V_drewN | apply Kd.V_drew)); exact HO487.out) hb); have n6_ := Aside0.mk (Kd.V_below (by (with_reducible repeat (first | apply Kd.V_alloc | apply Kd.V_drewN | apply Kd.V_drew)); exact HO490.out) hb); have n7_ := Aside0.mk (below_step (bl0_) hb); clear HO468; clear HO472; clear HO475; clear HO480; clear HO483; clear HO487; clear HO490; clear HB; have HO468 := n0_; have HO472 := n1_; have HO475 := n2_; have HO480 := n3_; have HO483 := n4_; have HO487 := n5_; have HO490 := n6_; have HB := n7_; clear n0_ n1_ n2_ n3_ n4_ n5_ n6_ n7_; (try clear hb); (try clear hb2); (try clear hk); (try clear hi)) | (go_at_call 14; (with_reducible refine (spec_CompareShapes.calls k _ _ t485 _ _ t488 t494 _ ?side1 ?side2 ?side3 ?side4 A25.out).mono ?_); (case side1 => exact ca_ (Kd.V_reads' HO487.out).2.2); (case side2 => exact (Kd.V_reads' HO487.out).2.1); (case side3 => exact ca_ (Kd.V_reads' HO490.out).2.2); (case side4 => exact (Kd.V_reads' HO490.out).2.1); rintro e w36 ⟨rfl, hb⟩; have n0_ := Aside0.mk (Kd.R_below (ra_ HO468.out) hb); have n1_ := Aside0.mk (Kd.R_below (ra_ HO472.out) hb); have n2_ := Aside0.mk (Kd.V_below (by (with_reducible repeat (first | apply Kd.V_alloc | apply Kd.V_drewN | apply Kd.V_drew)); exact HO475.out) hb); have n3_ := Aside0.mk (Kd.R_below (ra_ HO480.out) hb); have n4_ := Aside0.mk (Kd.V_below (by (with_reducible repeat (first | apply Kd.V_alloc | apply Kd.V_drewN | apply Kd.V_drew)); exact HO483.out) hb); have n5_ := Aside0.mk (Kd.V_below (by (with_reducible repeat (first | apply Kd.V_alloc | apply Kd.V_drewN | apply Kd.V_drew)); exact HO487.out) hb); have n6_ := Aside0.mk (Kd.V_below (by (with_reducible repeat (first | apply Kd.V_alloc | apply Kd.V_drewN | apply Kd.V_drew)); exact HO490.out) hb); have n7_ := Aside0.mk (below_step (bl0_) hb); clear HO468; clear HO472; clear HO475; clear HO480; clear HO483; clear HO487; clear HO490; clear HB; have HO468 := n0_; have HO472 := n1_; have HO475 := n2_; have HO480 := n3_; have HO483 := n4_; have HO487 := n5_; have HO490 := n6_; have HB := n7_; clear n0_ n1_ n2_ n3_ n4_ n5_ n6_ n7_; (try clear hb); (try clear hb2); (try clear hk); (try clear hi)) | (go_at_call 13; (with_reducible refine (impl_CompareShapes.calls _ _ t488 _ _ t485 t495 _ ?side1 ?side2 ?side3 ?side4 A27.out).mono ?_); (case side1 => exact ca_ (Kd.V_reads' HO490.out).2.2); (case side2 => exact (Kd.V_reads' HO490.out).2.1); (case side3 => exact ca_ (Kd.V_reads' HO487.out).2.2); (case side4 => exact (Kd.V_reads' HO487.out).2.1); rintro e w37 ⟨rfl, hb⟩; have n0_ := Aside0.mk (Kd.R_below (ra_ HO468.out) hb); have n1_ := Aside0.mk (Kd.R_below (ra_ HO472.out) hb); have n2_ := Aside0.mk (Kd.V_below (by (with_reducible repeat (first | apply Kd.V_alloc | apply Kd.V_drewN | apply Kd.V_drew)); exact HO475.out) hb); have n3_ := Aside0.mk (Kd.R_below (ra_ HO480.out) hb); have n4_ := Aside0.mk (Kd.V_below (by (with_reducible repeat (first | apply Kd.V_alloc | apply Kd.V_drewN | apply Kd.V_drew)); exact HO483.out) hb); have n5_ := Aside0.mk (Kd.V_below (by (with_reducible repeat (first | apply Kd.V_alloc | apply Kd.V_drewN | apply Kd.V_drew)); exact HO487.out) hb); have n6_ := Aside0.mk (Kd.V_below (by (with_reducible repeat (first | apply Kd.V_alloc | apply Kd.V_drewN | apply Kd.V_drew)); exact HO490.out) hb); have n7_ := Aside0.mk (below_step (bl0_) hb); clear HO468; clear HO472; clear HO475; clear HO480; clear HO483; clear HO487; clear HO490; clear HB; have HO468 := n0_; have HO472 := n1_; have HO475 := n2_; have HO480 := n3_; have HO483 := n4_; have HO487 := n5_; have HO490 := n6_; have HB := n7_; clear n0_ n1_ n2_ n3_ n4_ n5_ n6_ n7_; (try clear hb); (try clear hb2); (try clear hk); (try clear hi)) | (go_at_call 13; (with_reducible refine (impl_CompareShapes.calls _ _ t485 _ _ t488 t496 _ ?side1 ?side2 ?side3 ?side4 A28.out).mono ?_); (case side1 => exact ca_ (Kd.V_reads' HO487.out).2.2); (case side2 => exact (Kd.V_reads' HO487.out).2.1); (case side3 => exact ca_ (Kd.V_reads' HO490.out).2.2); (case side4 => exact (Kd.V_reads' HO490.out).2.1); rintro e w38 ⟨rfl, hb⟩; have n0_ := Aside0.mk (Kd.R_below (ra_ HO468.out) hb); have n1_ := Aside0.mk (Kd.R_below (ra_ HO472.out) hb); have n2_ := Aside0.mk (Kd.V_below (by (with_reducible repeat (first | apply Kd.V_alloc | apply Kd.V_drewN | apply Kd.V_drew)); exact HO475.out) hb); have n3_ := Aside0.mk (Kd.R_below (ra_ HO480.out) hb); have n4_ := Aside0.mk (Kd.V_below (by (with_reducible repeat (first | apply Kd.V_alloc | apply Kd.V_drewN | apply Kd.V_drew)); exact HO483.out) hb); have n5_ := Aside0.mk (Kd.V_below (by (with_reducible repeat (first | apply Kd.V_alloc | apply Kd.V_drewN | apply Kd.V_drew)); exact HO487.out) hb); have n6_ := Aside0.mk (Kd.V_below (by (with_reducible repeat (first | apply Kd.V_alloc | apply Kd.V_drewN | apply Kd.V_drew)); exact HO490.out) hb); have n7_ := Aside0.mk (below_step (bl0_) hb); clear HO468; clear HO472; clear HO475; clear HO480; clear HO483; clear HO487; clear HO490; clear HB; have HO468 := n0_; have HO472 := n1_; have HO475 := n2_; have HO480 := n3_; have HO483 := n4_; have HO487 := n5_; have HO490 := n6_; have HB := n7_; clear n0_ n1_ n2_ n3_ n4_ n5_ n6_ n7_; (try clear hb); (try clear hb2); (try clear hk); (try clear hi)))
        go_meet
        case rel => exact ⟨_, ((t495 != (wrap64 (-t496)))), (by first | rfl | (simp; done) | (simp [*]; done) | (have e_ : t493 = t496 := Option.some.inj (A24.out.symm.trans A28.out); simp [e_])), H', ⟨by first | omega | exact Nat.le_refl _⟩, ⟨by (with_reducible repeat (first | apply Kd.R_alloc | apply Kd.R_drewN | apply Kd.R_drew)); exact Kd.R_mono HO468.out (fun _ hk => ⟨hk.1.2, hk.2⟩)⟩, ⟨by (with_reducible repeat (first | apply Kd.R_alloc | apply Kd.R_drewN | apply Kd.R_drew)); exact Kd.R_mono HO472.out (fun _ hk => ⟨hk.1.2, hk.2⟩)⟩, ⟨by (with_reducible repeat (first | apply Kd.R_alloc | apply Kd.R_drewN | apply Kd.R_drew)); exact Kd.R_mono HO480.out (fun _ hk => ⟨hk.1.2, hk.2⟩)⟩, ⟨bl0_⟩⟩
       ·rw [if_neg c26] at H
        have c26b0 : (t493 == t494) = false := beq_eq_false_iff_ne.mpr c26
        have c26b1 : (t493 != t494) = true := bne_iff_ne.mpr c26
        have H' := Aside0.mk H
        clear H
        obtain ⟨Ao39, co39, eo39⟩ := Kd.R_slice HO472.out
        subst eo39
        obtain ⟨Ao40, co40, eo40⟩ := Kd.V_slice HO475.out
        subst eo40
        go_wp2_with (first | (go_at_call 12; (with_reducible refine (laws_likeCells.calls k _ _ t469 _ _ t473 true _ ?side1 ?side2 ?side3 ?side4 A19.out).mono ?_); (case side1 => exact ca_ (Kd.R_reads' HO472.out).2.2); (case side2 => exact (Kd.R_reads' HO472.out).2.1); (case side3 => exact ca_ (Kd.V_reads' HO475.out).2.2); (case side4 => exact (Kd.V_reads' HO475.out).2.1); rintro e w' ⟨rfl, ⟨nd, rfl⟩⟩; obtain ⟨Ao41, co41, eo41⟩ := Kd.R_slice HO480.out; subst eo41; obtain ⟨Ao42, co42, eo42⟩ := Kd.V_slice HO483.out; subst eo42) | (go_at_call 12; (with_reducible refine (laws_likeCells.calls k _ _ t477 _ _ t481 true _ ?side1 ?side2 ?side3 ?side4 A22.out).mono ?_); (case side1 => exact ca_ (Kd.R_reads' HO480.out).2.2); (case side2 => exact (Kd.R_reads' HO480.out).2.1); (case side3 => exact ca_ (Kd.V_reads' HO483.out).2.2); (case side4 => exact (Kd.V_reads' HO483.out).2.1); rintro e w' ⟨rfl, ⟨nd, rfl⟩⟩; obtain ⟨Ao43, co43, eo43⟩ := Kd.V_slice HO487.out; subst eo43; obtain ⟨Ao44, co44, eo44⟩ := Kd.V_slice HO490.out; subst eo44) | (go_at_call 13; (with_reducible refine (impl_CompareShapes.calls _ _ t485 _ _ t488 t493 _ ?side1 ?side2 ?side3 ?side4 A24.out).mono ?_); (case side1 => exact ca_ (Kd.V_reads' HO487.out).2.2); (case side2 => exact (Kd.V_reads' HO487.out).2.1); (case side3 => exact ca_ (Kd.V_reads' HO490.out).2.2); (case side4 => exact (Kd.V_reads' HO490.out).2.1); rintro e w45 ⟨rfl, hb⟩; have n0_ := Aside0.mk (Kd.R_below (ra_ HO468.out) hb); have n1_ := Aside0.mk (Kd.R_below (ra_ HO472.out) hb); have n2_ := Aside0.mk (Kd.V_below (by (with_reducible repeat (first | apply Kd.V_alloc | apply Kd.V_drewN | apply Kd.V_drew)); exact HO475.out) hb); have n3_ := Aside0.mk (Kd.R_below (ra_ HO480.out) hb); have n4_ := Aside0.mk (Kd.V_below (by (with_reducible repeat (first | apply Kd.V_alloc | apply Kd.V_drewN | apply Kd.V_drew)); exact HO483.out) hb); have n5_ := Aside0.mk (Kd.V_below (by (with_reducible repeat (first | apply Kd.V_alloc | apply Kd.V_drewN | apply Kd.V_drew)); exact HO487.out) hb); have n6_ := Aside0.mk (Kd.V_below (by (with_reducible repeat (first | apply Kd.V_alloc | apply Kd.V_drewN | apply Kd.V_drew)); exact HO490.out) hb); have n7_ := Aside0.mk (below_step (bl0_) hb); clear HO468; clear HO472; clear HO475; clear HO480; clear HO483; clear HO487; clear HO490; clear HB; have HO468 := n0_; have HO472 := n1_; have HO475 := n2_; have HO480 := n3_; have HO483 := n4_; have HO487 := n5_; have HO490 := n6_; have HB := n7_; clear n0_ n1_ n2_ n3_ n4_ n5_ n6_ n7_; (try clear hb); (try clear hb2); (try clear hk); (try clear hi)) | (go_at_call 14; (with_reducible refine (spec_CompareShapes.calls k _ _ t485 _ _ t488 t494 _ ?side1 ?side2 ?side3 ?side4 A25.out).mono ?_); (case side1 => exact ca_ (Kd.V_reads' HO487.out).2.2); (case side2 => exact (Kd.V_reads' HO487.out).2.1); (case side3 => exact ca_ (Kd.V_reads' HO490.out).2.2); (case side4 => exact (Kd.V_reads' HO490.out).2.1); rintro e w46 ⟨rfl, hb⟩; have n0_ := Aside0.mk (Kd.R_below (ra_ HO468.out) hb); have n1_ := Aside0.mk (Kd.R_below (ra_ HO472.out) hb); have n2_ := Aside0.mk (Kd.V_below (by (with_reducible repeat (first | apply Kd.V_alloc | apply Kd.V_drewN | apply Kd.V_drew)); exact HO475.out) hb); have n3_ := Aside0.mk (Kd.R_below (ra_ HO480.out) hb); have n4_ := Aside0.mk (Kd.V_below (by (with_reducible repeat (first | apply Kd.V_alloc | apply Kd.V_drewN | apply Kd.V_drew)); exact HO483.out) hb); have n5_ := Aside0.mk (Kd.V_below (by (with_reducible repeat (first | apply Kd.V_alloc | apply Kd.V_drewN | apply Kd.V_drew)); exact HO487.out) hb); have n6_ := Aside0.mk (Kd.V_below (by (with_reducible repeat (first | apply Kd.V_alloc | apply Kd.V_drewN | apply Kd.V_drew)); exact HO490.out) hb); have n7_ := Aside0.mk (below_step (bl0_) hb); clear HO468; clear HO472; clear HO475; clear HO480; clear HO483; clear HO487; clear HO490; clear HB; have HO468 := n0_; have HO472 := n1_; have HO475 := n2_; have HO480 := n3_; have HO483 := n4_; have HO487 := n5_; have HO490 := n6_; have HB := n7_; clear n0_ n1_ n2_ n3_ n4_ n5_ n6_ n7_; (try clear hb); (try clear hb2); (try clear hk); (try clear hi)))
        go_meet
        case rel => exact ⟨_, (true), rs_, H', ⟨by first | omega | exact Nat.le_refl _⟩, ⟨by (with_reducible repeat (first | apply Kd.R_alloc | apply Kd.R_drewN | apply Kd.R_drew)); exact Kd.R_mono HO468.out (fun _ hk => ⟨hk.1.2, hk.2⟩)⟩, ⟨by (with_reducible repeat (first | apply Kd.R_alloc | apply Kd.R_drewN | apply Kd.R_drew)); exact Kd.R_mono HO472.out (fun _ hk => ⟨hk.1.2, hk.2⟩)⟩, ⟨by (with_reducible repeat (first | apply Kd.R_alloc | apply Kd.R_drewN | apply Kd.R_drew)); exact Kd.R_mono HO480.out (fun _ hk => ⟨hk.1.2, hk.2⟩)⟩, ⟨bl0_⟩⟩
      ·replace c23 := Bool.eq_false_iff.mpr c23
       subst c23
       have H1 : (laws_FnOneSided.j0 k l0 t466 t469 t470 t477 true) = some r := by rw [if_neg (show ¬ (false = true) by decide)] at H; exact H
       clear H
       have H := H1
       clear H1
       have H' := Aside0.mk H
       clear H
       obtain ⟨Ao47, co47, eo47⟩ := Kd.R_slice HO472.out
       subst eo47
       obtain ⟨Ao48, co48, eo48⟩ := Kd.V_slice HO475.out
       subst eo48
       go_wp2_with (first | (go_at_call 12; (with_reducible refine (laws_likeCells.calls k _ _ t469 _ _ t473 true _ ?side1 ?side2 ?side3 ?side4 A19.out).mono ?_); (case side1 => exact ca_ (Kd.R_reads' HO472.out).2.2); (case side2 => exact (Kd.R_reads' HO472.out).2.1); (case side3 => exact ca_ (Kd.V_reads' HO475.out).2.2); (case side4 => exact (Kd.V_reads' HO475.out).2.1); rintro e w' ⟨rfl, ⟨nd, rfl⟩⟩; obtain ⟨Ao49, co49, eo49⟩ := Kd.R_slice HO480.out; subst eo49; obtain ⟨Ao50, co50, eo50⟩ := Kd.V_slice HO483.out; subst eo50) | (go_at_call 12; (with_reducible refine (laws_likeCells.calls k _ _ t477 _ _ t481 false _ ?side1 ?side2 ?side3 ?side4 A22.out).mono ?_); (case side1 => exact ca_ (Kd.R_reads' HO480.out).2.2); (case side2 => exact (Kd.R_reads' HO480.out).2.1); (case side3 => exact ca_ (Kd.V_reads' HO483.out).2.2); (case side4 => exact (Kd.V_reads' HO483.out).2.1); rintro e w' ⟨rfl, ⟨nd, rfl⟩⟩))
       go_meet
       case rel => exact ⟨_, (true), rs_, H', ⟨by first | omega | exact Nat.le_refl _⟩, ⟨by (with_reducible repeat (first | apply Kd.R_alloc | apply Kd.R_drewN | apply Kd.R_drew)); exact Kd.R_mono HO468.out (fun _ hk => ⟨hk.1.2, hk.2⟩)⟩, ⟨by (with_reducible repeat (first | apply Kd.R_alloc | apply Kd.R_drewN | apply Kd.R_drew)); exact Kd.R_mono HO472.out (fun _ hk => ⟨hk.1.2, hk.2⟩)⟩, ⟨by (with_reducible repeat (first | apply Kd.R_alloc | apply Kd.R_drewN | apply Kd.R_drew)); exact Kd.R_mono HO480.out (fun _ hk => ⟨hk.1.2, hk.2⟩)⟩, ⟨bl0_⟩⟩
     ·rw [if_neg c21] at H
      have c21b0 : (t478 == t484) = false := beq_eq_false_iff_ne.mpr c21
      have c21b1 : (t478 != t484) = true := bne_iff_ne.mpr c21
      have H' := Aside0.mk H
      clear H
      obtain ⟨Ao51, co51, eo51⟩ := Kd.R_slice HO472.out
      subst eo51
      obtain ⟨Ao52, co52, eo52⟩ := Kd.V_slice HO475.out
      subst eo52
      go_wp2_with (first | (go_at_call 12; (with_reducible refine (laws_likeCells.calls k _ _ t469 _ _ t473 true _ ?side1 ?side2 ?side3 ?side4 A19.out).mono ?_); (case side1 => exact ca_ (Kd.R_reads' HO472.out).2.2); (case side2 => exact (Kd.R_reads' HO472.out).2.1); (case side3 => exact ca_ (Kd.V_reads' HO475.out).2.2); (case side4 => exact (Kd.V_reads' HO475.out).2.1); rintro e w' ⟨rfl, ⟨nd, rfl⟩⟩))
      go_meet
      case rel => exact ⟨_, (true), rs_, H', ⟨by first | omega | exact Nat.le_refl _⟩, ⟨by (with_reducible repeat (first | apply Kd.R_alloc | apply Kd.R_drewN | apply Kd.R_drew)); exact Kd.R_mono HO468.out (fun _ hk => ⟨hk.1.2, hk.2⟩)⟩, ⟨by (with_reducible repeat (first | apply Kd.R_alloc | apply Kd.R_drewN | apply Kd.R_drew)); exact Kd.R_mono HO472.out (fun _ hk => ⟨hk.1.2, hk.2⟩)⟩, ⟨by (with_reducible repeat (first | apply Kd.R_alloc | apply Kd.R_drewN | apply Kd.R_drew)); exact Kd.R_mono HO480.out (fun _ hk => ⟨hk.1.2, hk.2⟩)⟩, ⟨bl0_⟩⟩
    ·replace c20 := Bool.eq_false_iff.mpr c20
     subst c20
     have H1 : (laws_FnOneSided.j0 k l0 t466 t469 t470 t477 true) = some r := by rw [if_neg (show ¬ (false = true) by decide)] at H; exact H
     clear H
     have H := H1
     clear H1
     have H' := Aside0.mk H
     clear H
     obtain ⟨Ao53, co53, eo53⟩ := Kd.R_slice HO472.out
     subst eo53
     obtain ⟨Ao54, co54, eo54⟩ := Kd.V_slice HO475.out
     subst eo54
     go_wp2_with (first | (go_at_call 12; (with_reducible refine (laws_likeCells.calls k _ _ t469 _ _ t473 false _ ?side1 ?side2 ?side3 ?side4 A19.out).mono ?_); (case side1 => exact ca_ (Kd.R_reads' HO472.out).2.2); (case side2 => exact (Kd.R_reads' HO472.out).2.1); (case side3 => exact ca_ (Kd.V_reads' HO475.out).2.2); (case side4 => exact (Kd.V_reads' HO475.out).2.1); rintro e w' ⟨rfl, ⟨nd, rfl⟩⟩))
     go_meet
     case rel => exact ⟨_, (true), rs_, H', ⟨by first | omega | exact Nat.le_refl _⟩, ⟨by (with_reducible repeat (first | apply Kd.R_alloc | apply Kd.R_drewN | apply Kd.R_drew)); exact Kd.R_mono HO468.out (fun _ hk => ⟨hk.1.2, hk.2⟩)⟩, ⟨by (with_reducible repeat (first | apply Kd.R_alloc | apply Kd.R_drewN | apply Kd.R_drew)); exact Kd.R_mono HO472.out (fun _ hk => ⟨hk.1.2, hk.2⟩)⟩, ⟨by (with_reducible repeat (first | apply Kd.R_alloc | apply Kd.R_drewN | apply Kd.R_drew)); exact Kd.R_mono HO480.out (fun _ hk => ⟨hk.1.2, hk.2⟩)⟩, ⟨bl0_⟩⟩
   ·rw [if_neg c18] at H
    have c18b0 : (t470 == t476) = false := beq_eq_false_iff_ne.mpr c18
    have c18b1 : (t470 != t476) = true := bne_iff_ne.mpr c18
    (first | rw [c18b0] | (simp only [i64_w, i32_w]; rw [c18b0]) | skip)
    have H' := Aside0.mk H
    clear H
    go_wp2
    go_meet
    case rel => exact ⟨_, (true), rs_, H', ⟨by first | omega | exact Nat.le_refl _⟩, ⟨by (with_reducible repeat (first | apply Kd.R_alloc | apply Kd.R_drewN | apply Kd.R_drew)); exact Kd.R_mono HO468.out (fun _ hk => ⟨hk.1.2, hk.2⟩)⟩, ⟨by (with_reducible repeat (first | apply Kd.R_alloc | apply Kd.R_drewN | apply Kd.R_drew)); exact Kd.R_mono HO472.out (fun _ hk => ⟨hk.1.2, hk.2⟩)⟩, ⟨by (with_reducible repeat (first | apply Kd.R_alloc | apply Kd.R_drewN | apply Kd.R_drew)); exact Kd.R_mono HO480.out (fun _ hk => ⟨hk.1.2, hk.2⟩)⟩, ⟨bl0_⟩⟩
  case rest =>
   clear HC10
   try clear c1
   try clear c2
   try clear p2
   try clear c3
   try clear c5
   try clear c6
   try clear p6
   try clear c7
   try clear c8
   try clear c9
   try clear c10
   try clear c11
   try clear c18
   try clear c18b0
   try clear c18b1
   try clear c20
   try clear c21
   try clear c21b0
   try clear c21b1
   try clear c23
   try clear c26
   try clear c26b0
   try clear c26b1
   obtain ⟨kq, x85_9, rfl, HA, HJ9, HO_3, HO_4, HO_8, HB⟩ := hcut
   cases kq with
   | zero => exact absurd HA.out (by simp [laws_FnOneSided.j0])
   | succ kj9 =>
    have H := HA.out
    clear HA
    simp only [laws_FnOneSided.j0] at H
    by_cases c55 : x85_9 = true
    ·subst c55
     have H1 : (some false) = some r := by rw [if_pos rfl] at H; exact H
     clear H
     have H := H1
     clear H1
     obtain rfl := Option.some.inj H
     go_wp2
     go_ret
     exact ⟨er_, bl0_⟩
    ·replace c55 := Bool.eq_false_iff.mpr c55
     subst c55
     have H1 : (if t470 = 0 then ((laws_roll.f kj9 l0 303).bind fun bt497 => ((laws_dice_below.f bt497.1 bt497.2.1 bt497.2.2 4).bind fun bt501 => ((impl_TurnShape.f kj9 t466 bt501.1).bind fun bt504 => ((impl_OneSidedForm.f kj9 bt504.1).bind fun bt508 => (if bt504.2 = 0 then (if bt508.2 = 0 then ((laws_likeCells.f kj9 bt508.1 t469).bind fun t512 => (if t512 = true then ((impl_CompareShapes.f t477 t469).bind fun t513 => (some (decide (t513 ≤ 0)))) else (some false))) else (some false)) else (some false)))))) else (some true)) = some r := by rw [if_neg (show ¬ (false = true) by decide)] at H; exact H
     clear H
     have H := H1
     clear H1
     by_cases c56 : t470 = 0
     ·rw [if_pos c56] at H
      have c56b0 : (t470 == 0) = true := beq_iff_eq.mpr c56
      have c56b1 : (t470 != 0) = false := bne_eq_false_iff_eq.mpr c56
      clear c56
      replace H := Option.bind_eq_some_iff.mp H
      obtain ⟨⟨t497, t498, t499⟩, A570, H⟩ := H
      replace H : ((laws_dice_below.f t497 t498 t499 4).bind fun bt501 => ((impl_TurnShape.f kj9 t466 bt501.1).bind fun bt504 => ((impl_OneSidedForm.f kj9 bt504.1).bind fun bt508 => (if bt504.2 = 0 then (if bt508.2 = 0 then ((laws_likeCells.f kj9 bt508.1 t469).bind fun t512 => (if t512 = true then ((impl_CompareShapes.f t477 t469).bind fun t513 => (some (decide (t513 ≤ 0)))) else (some false))) else (some false)) else (some false))))) = some r := H
      have A57 := Aside0.mk A570
      clear A570
      replace H := Option.bind_eq_some_iff.mp H
      obtain ⟨⟨t501, t502, t503⟩, A580, H⟩ := H
      replace H : ((impl_TurnShape.f kj9 t466 t501).bind fun bt504 => ((impl_OneSidedForm.f kj9 bt504.1).bind fun bt508 => (if bt504.2 = 0 then (if bt508.2 = 0 then ((laws_likeCells.f kj9 bt508.1 t469).bind fun t512 => (if t512 = true then ((impl_CompareShapes.f t477 t469).bind fun t513 => (some (decide (t513 ≤ 0)))) else (some false))) else (some false)) else (some false)))) = some r := H
      have A58 := Aside0.mk A580
      clear A580
      replace H := Option.bind_eq_some_iff.mp H
      obtain ⟨⟨t504, t505⟩, A590, H⟩ := H
      replace H : ((impl_OneSidedForm.f kj9 t504).bind fun bt508 => (if t505 = 0 then (if bt508.2 = 0 then ((laws_likeCells.f kj9 bt508.1 t469).bind fun t512 => (if t512 = true then ((impl_CompareShapes.f t477 t469).bind fun t513 => (some (decide (t513 ≤ 0)))) else (some false))) else (some false)) else (some false))) = some r := H
      have A59 := Aside0.mk A590
      clear A590
      replace H := Option.bind_eq_some_iff.mp H
      obtain ⟨⟨t508, t509⟩, A600, H⟩ := H
      replace H : (if t505 = 0 then (if t509 = 0 then ((laws_likeCells.f kj9 t508 t469).bind fun t512 => (if t512 = true then ((impl_CompareShapes.f t477 t469).bind fun t513 => (some (decide (t513 ≤ 0)))) else (some false))) else (some false)) else (some false)) = some r := H
      have A60 := Aside0.mk A600
      clear A600
      by_cases c61 : t505 = 0
      ·rw [if_pos c61] at H
       have c61b0 : (t505 == 0) = true := beq_iff_eq.mpr c61
       have c61b1 : (t505 != 0) = false := bne_eq_false_iff_eq.mpr c61
       clear c61
       by_cases c62 : t509 = 0
       ·rw [if_pos c62] at H
        have c62b0 : (t509 == 0) = true := beq_iff_eq.mpr c62
        have c62b1 : (t509 != 0) = false := bne_eq_false_iff_eq.mpr c62
        clear c62
        replace H := Option.bind_eq_some_iff.mp H
        obtain ⟨t512, A630, H⟩ := H
        replace H : (if t512 = true then ((impl_CompareShapes.f t477 t469).bind fun t513 => (some (decide (t513 ≤ 0)))) else (some false)) = some r := H
        have A63 := Aside0.mk A630
        clear A630
        by_cases c64 : t512 = true
        ·subst c64
         have H1 : ((impl_CompareShapes.f t477 t469).bind fun t513 => (some (decide (t513 ≤ 0)))) = some r := by rw [if_pos rfl] at H; exact H
         clear H
         have H := H1
         clear H1
         replace H := Option.bind_eq_some_iff.mp H
         obtain ⟨t513, A650, H⟩ := H
         replace H : (some (decide (t513 ≤ 0))) = some r := H
         have A65 := Aside0.mk A650
         clear A650
         obtain rfl := Option.some.inj H
         go_wp2_with (first | ((with_reducible refine gate_callee (f := 16) rfl ?_); refine goesL_ (some 91) rfl rfl Try.func16 kr_ rfl #[.slice A0 l0.length c0, .int .u64 303] rfl ta_ ?_; (with_reducible refine (laws_roll.calls kj9 _ _ l0 303 t497 t498 t499 w _ ?side1 ?side2 ?side3 A57.out).mono ?_); (case side1 => repeat (first | (with_reducible first | exact HB.out | apply below_alloc | apply pw_below_drewN | apply below_drew1) | exact HB.out)); (case side2 => exact HR0.out); (case side3 => exact HC0.out); rintro e w66 ⟨g500, rfl, hi, hb, hb2⟩; refine ⟨_, rfl, ?_⟩; have n0_ := Aside0.mk (Kd.R_below (ra_ HO_3.out) hb2); have n1_ := Aside0.mk (Kd.R_below (ra_ HO_4.out) hb2); have n2_ := Aside0.mk (Kd.R_below (ra_ HO_8.out) hb2); have n3_ := Aside0.mk (hb); have n4_ := Aside0.mk (hi); clear HO_3; clear HO_4; clear HO_8; clear HB; have HO_3 := n0_; have HO_4 := n1_; have HO_8 := n2_; have HB := n3_; have HI500 := n4_; clear n0_ n1_ n2_ n3_ n4_; (try clear hb); (try clear hb2); (try clear hk); (try clear hi)) | ((with_reducible refine gate_callee (f := 17) rfl ?_); refine goesL_ (some 92) rfl rfl Try.func17 kr_ rfl #[.pointer (some ⟨g500, 0, none⟩), .int .i64 4] rfl ta_ ?_; (with_reducible refine (laws_dice_below.calls g500 t497 t498 t499 4 t501 t502 t503 w _ ?side1 ?side2 A58.out).mono ?_); (case side1 => exact is56_ HI500.out); (case side2 => repeat (first | (with_reducible first | exact HB.out | apply below_alloc | apply pw_below_drewN | apply below_drew1 | refine below_set ?_ (IsS56.ge HI500.out)) | exact HB.out)); rintro e w67 ⟨rfl, hi, hb, hk⟩; refine ⟨_, rfl, ?_⟩; have n0_ := Aside0.mk (Kd.R_mono (Kd.R_keep (IsS56.apart (show IsS56 w _ g500 t497 t498 t499 from is56_ HI500.out) (ra_ HO_3.out) (by decide)) hk (fun _ h => h.2)) (fun _ h => h.1)); have n1_ := Aside0.mk (Kd.R_mono (Kd.R_keep (IsS56.apart (show IsS56 w _ g500 t497 t498 t499 from is56_ HI500.out) (ra_ HO_4.out) (by decide)) hk (fun _ h => h.2)) (fun _ h => h.1)); have n2_ := Aside0.mk (Kd.R_mono (Kd.R_keep (IsS56.apart (show IsS56 w _ g500 t497 t498 t499 from is56_ HI500.out) (ra_ HO_8.out) (by decide)) hk (fun _ h => h.2)) (fun _ h => h.1)); have n3_ := Aside0.mk (hb); have n4_ := Aside0.mk (hi); clear HO_3; clear HO_4; clear HO_8; clear HB; clear HI500; have HO_3 := n0_; have HO_4 := n1_; have HO_8 := n2_; have HB := n3_; have HI500 := n4_; clear n0_ n1_ n2_ n3_ n4_; (try clear hb); (try clear hb2); (try clear hk); (try clear hi)) | ((with_reducible refine gate_callee (f := 15) rfl ?_); refine goesL_ (some 93) rfl rfl Try.func15 kr_ rfl #[.slice Ao12 t466.length co12, .int .i64 t501] rfl ta_ ?_; (with_reducible refine (impl_TurnShape.calls kj9 _ _ t466 t501 t504 t505 _ ?side1 ?side2 A59.out).mono ?_); (case side1 => exact ca_ (Kd.R_reads' HO_3.out).2.2); (case side2 => exact (Kd.R_reads' HO_3.out).2.1); rintro e w68 ⟨v506, rfl, ho0, hb⟩; refine ⟨_, rfl, ?_⟩; have n0_ := Aside0.mk (Kd.R_elder' (ra_ HO_3.out) (Kd.R_base ho0) hb); have n1_ := Aside0.mk (Kd.R_elder' (ra_ HO_4.out) (Kd.R_base ho0) hb); have n2_ := Aside0.mk (Kd.R_elder' (ra_ HO_8.out) (Kd.R_base ho0) hb); have n3_ := Aside0.mk (Kd.R_lower (Kd.R_new' (Kd.R_new' (Kd.R_new' ho0 (Kd.R_lt (ra_ HO_3.out))) (Kd.R_lt (ra_ HO_4.out))) (Kd.R_lt (ra_ HO_8.out))) (below_size (by repeat (first | (with_reducible first | exact HB.out | apply below_alloc | apply pw_below_drewN | apply below_drew1 | refine below_set ?_ (IsS56.ge HI500.out)) | exact HB.out)))); have n4_ := Aside0.mk (IsS56.below (is56_ HI500.out) hb); have n5_ := Aside0.mk (below_step (by repeat (first | (with_reducible first | exact HB.out | apply below_alloc | apply pw_below_drewN | apply below_drew1 | refine below_set ?_ (IsS56.ge HI500.out)) | exact HB.out)) hb); clear HO_3; clear HO_4; clear HO_8; clear HI500; clear HB; have HO_3 := n0_; have HO_4 := n1_; have HO_8 := n2_; have HO507 := n3_; have HI500 := n4_; have HB := n5_; clear n0_ n1_ n2_ n3_ n4_ n5_; (try clear hb); (try clear hb2); (try clear hk); (try clear hi); (try clear ho0); obtain ⟨Ao69, co69, eo69⟩ := Kd.R_slice HO507.out; subst eo69) | ((with_reducible refine gate_callee (f := 7) rfl ?_); refine goesL_ (some 98) rfl rfl Try.func7 kr_ rfl #[.slice Ao69 t504.length co69] rfl ta_ ?_; (with_reducible refine (impl_OneSidedForm.calls kj9 _ _ t504 t508 t509 _ ?side1 ?side2 A60.out).mono ?_); (case side1 => exact ca_ (Kd.R_reads' HO507.out).2.2); (case side2 => exact (Kd.R_reads' HO507.out).2.1); rintro e w70 ⟨v510, rfl, ho0, hb⟩; refine ⟨_, rfl, ?_⟩; have n0_ := Aside0.mk (Kd.R_elder' (ra_ HO_3.out) (Kd.R_base ho0) hb); have n1_ := Aside0.mk (Kd.R_elder' (ra_ HO_4.out) (Kd.R_base ho0) hb); have n2_ := Aside0.mk (Kd.R_elder' (ra_ HO_8.out) (Kd.R_base ho0) hb); have n3_ := Aside0.mk (Kd.R_elder' (ra_ HO507.out) (Kd.R_base ho0) hb); have n4_ := Aside0.mk (Kd.R_lower (Kd.R_new' (Kd.R_new' (Kd.R_new' (Kd.R_new' ho0 (Kd.R_lt (ra_ HO_3.out))) (Kd.R_lt (ra_ HO_4.out))) (Kd.R_lt (ra_ HO_8.out))) (Kd.R_lt (ra_ HO507.out))) (below_size (by repeat (first | (with_reducible first | exact HB.out | apply below_alloc | apply pw_below_drewN | apply below_drew1 | refine below_set ?_ (IsS56.ge HI500.out)) | exact HB.out)))); have n5_ := Aside0.mk (IsS56.below (is56_ HI500.out) hb); have n6_ := Aside0.mk (below_step (by repeat (first | (with_reducible first | exact HB.out | apply below_alloc | apply pw_below_drewN | apply below_drew1 | refine below_set ?_ (IsS56.ge HI500.out)) | exact HB.out)) hb); clear HO_3; clear HO_4; clear HO_8; clear HO507; clear HI500; clear HB; have HO_3 := n0_; have HO_4 := n1_; have HO_8 := n2_; have HO507 := n3_; have HO511 := n4_; have HI500 := n5_; have HB := n6_; clear n0_ n1_ n2_ n3_ n4_ n5_ n6_; (try clear hb); (try clear hb2); (try clear hk); (try clear hi); (try clear ho0); obtain ⟨Ao71, co71, eo71⟩ := Kd.R_slice HO511.out; subst eo71; obtain ⟨Ao72, co72, eo72⟩ := Kd.R_slice HO_4.out; subst eo72) | (go_at_call 12; (with_reducible refine (laws_likeCells.calls kj9 _ _ t508 _ _ t469 true _ ?side1 ?side2 ?side3 ?side4 A63.out).mono ?_); (case side1 => exact ca_ (Kd.R_reads' HO511.out).2.2); (case side2 => exact (Kd.R_reads' HO511.out).2.1); (case side3 => exact ca_ (Kd.R_reads' HO_4.out).2.2); (case side4 => exact (Kd.R_reads' HO_4.out).2.1); rintro e w' ⟨rfl, ⟨nd, rfl⟩⟩; obtain ⟨Ao73, co73, eo73⟩ := Kd.R_slice HO_8.out; subst eo73) | (go_at_call 13; (with_reducible refine (impl_CompareShapes.calls _ _ t477 _ _ t469 t513 _ ?side1 ?side2 ?side3 ?side4 A65.out).mono ?_); (case side1 => exact ca_ (Kd.R_reads' HO_8.out).2.2); (case side2 => exact (Kd.R_reads' HO_8.out).2.1); (case side3 => exact ca_ (Kd.R_reads' HO_4.out).2.2); (case side4 => exact (Kd.R_reads' HO_4.out).2.1); rintro e w74 ⟨rfl, hb⟩; have n0_ := Aside0.mk (Kd.R_below (ra_ HO_3.out) hb); have n1_ := Aside0.mk (Kd.R_below (ra_ HO_4.out) hb); have n2_ := Aside0.mk (Kd.R_below (ra_ HO_8.out) hb); have n3_ := Aside0.mk (Kd.R_below (ra_ HO507.out) hb); have n4_ := Aside0.mk (Kd.R_below (ra_ HO511.out) hb); have n5_ := Aside0.mk (IsS56.below (is56_ HI500.out) hb); have n6_ := Aside0.mk (below_step (by repeat (first | (with_reducible first | exact HB.out | apply below_alloc | apply pw_below_drewN | apply below_drew1 | refine below_set ?_ (IsS56.ge HI500.out)) | exact HB.out)) hb); clear HO_3; clear HO_4; clear HO_8; clear HO507; clear HO511; clear HI500; clear HB; have HO_3 := n0_; have HO_4 := n1_; have HO_8 := n2_; have HO507 := n3_; have HO511 := n4_; have HI500 := n5_; have HB := n6_; clear n0_ n1_ n2_ n3_ n4_ n5_ n6_; (try clear hb); (try clear hb2); (try clear hk); (try clear hi)))
         go_ret
         exact ⟨er_, by repeat (first | (with_reducible first | exact HB.out | apply below_alloc | apply pw_below_drewN | apply below_drew1 | refine below_set ?_ (IsS56.ge HI500.out)) | exact HB.out)⟩
        ·replace c64 := Bool.eq_false_iff.mpr c64
         subst c64
         have H1 : (some false) = some r := by rw [if_neg (show ¬ (false = true) by decide)] at H; exact H
         clear H
         have H := H1
         clear H1
         obtain rfl := Option.some.inj H
         go_wp2_with (first | ((with_reducible refine gate_callee (f := 16) rfl ?_); refine goesL_ (some 91) rfl rfl Try.func16 kr_ rfl #[.slice A0 l0.length c0, .int .u64 303] rfl ta_ ?_; (with_reducible refine (laws_roll.calls kj9 _ _ l0 303 t497 t498 t499 w _ ?side1 ?side2 ?side3 A57.out).mono ?_); (case side1 => repeat (first | (with_reducible first | exact HB.out | apply below_alloc | apply pw_below_drewN | apply below_drew1) | exact HB.out)); (case side2 => exact HR0.out); (case side3 => exact HC0.out); rintro e w75 ⟨g500, rfl, hi, hb, hb2⟩; refine ⟨_, rfl, ?_⟩; have n0_ := Aside0.mk (Kd.R_below (ra_ HO_3.out) hb2); have n1_ := Aside0.mk (Kd.R_below (ra_ HO_4.out) hb2); have n2_ := Aside0.mk (Kd.R_below (ra_ HO_8.out) hb2); have n3_ := Aside0.mk (hb); have n4_ := Aside0.mk (hi); clear HO_3; clear HO_4; clear HO_8; clear HB; have HO_3 := n0_; have HO_4 := n1_; have HO_8 := n2_; have HB := n3_; have HI500 := n4_; clear n0_ n1_ n2_ n3_ n4_; (try clear hb); (try clear hb2); (try clear hk); (try clear hi)) | ((with_reducible refine gate_callee (f := 17) rfl ?_); refine goesL_ (some 92) rfl rfl Try.func17 kr_ rfl #[.pointer (some ⟨g500, 0, none⟩), .int .i64 4] rfl ta_ ?_; (with_reducible refine (laws_dice_below.calls g500 t497 t498 t499 4 t501 t502 t503 w _ ?side1 ?side2 A58.out).mono ?_); (case side1 => exact is56_ HI500.out); (case side2 => repeat (first | (with_reducible first | exact HB.out | apply below_alloc | apply pw_below_drewN | apply below_drew1 | refine below_set ?_ (IsS56.ge HI500.out)) | exact HB.out)); rintro e w76 ⟨rfl, hi, hb, hk⟩; refine ⟨_, rfl, ?_⟩; have n0_ := Aside0.mk (Kd.R_mono (Kd.R_keep (IsS56.apart (show IsS56 w _ g500 t497 t498 t499 from is56_ HI500.out) (ra_ HO_3.out) (by decide)) hk (fun _ h => h.2)) (fun _ h => h.1)); have n1_ := Aside0.mk (Kd.R_mono (Kd.R_keep (IsS56.apart (show IsS56 w _ g500 t497 t498 t499 from is56_ HI500.out) (ra_ HO_4.out) (by decide)) hk (fun _ h => h.2)) (fun _ h => h.1)); have n2_ := Aside0.mk (Kd.R_mono (Kd.R_keep (IsS56.apart (show IsS56 w _ g500 t497 t498 t499 from is56_ HI500.out) (ra_ HO_8.out) (by decide)) hk (fun _ h => h.2)) (fun _ h => h.1)); have n3_ := Aside0.mk (hb); have n4_ := Aside0.mk (hi); clear HO_3; clear HO_4; clear HO_8; clear HB; clear HI500; have HO_3 := n0_; have HO_4 := n1_; have HO_8 := n2_; have HB := n3_; have HI500 := n4_; clear n0_ n1_ n2_ n3_ n4_; (try clear hb); (try clear hb2); (try clear hk); (try clear hi)) | ((with_reducible refine gate_callee (f := 15) rfl ?_); refine goesL_ (some 93) rfl rfl Try.func15 kr_ rfl #[.slice Ao12 t466.length co12, .int .i64 t501] rfl ta_ ?_; (with_reducible refine (impl_TurnShape.calls kj9 _ _ t466 t501 t504 t505 _ ?side1 ?side2 A59.out).mono ?_); (case side1 => exact ca_ (Kd.R_reads' HO_3.out).2.2); (case side2 => exact (Kd.R_reads' HO_3.out).2.1); rintro e w77 ⟨v506, rfl, ho0, hb⟩; refine ⟨_, rfl, ?_⟩; have n0_ := Aside0.mk (Kd.R_elder' (ra_ HO_3.out) (Kd.R_base ho0) hb); have n1_ := Aside0.mk (Kd.R_elder' (ra_ HO_4.out) (Kd.R_base ho0) hb); have n2_ := Aside0.mk (Kd.R_elder' (ra_ HO_8.out) (Kd.R_base ho0) hb); have n3_ := Aside0.mk (Kd.R_lower (Kd.R_new' (Kd.R_new' (Kd.R_new' ho0 (Kd.R_lt (ra_ HO_3.out))) (Kd.R_lt (ra_ HO_4.out))) (Kd.R_lt (ra_ HO_8.out))) (below_size (by repeat (first | (with_reducible first | exact HB.out | apply below_alloc | apply pw_below_drewN | apply below_drew1 | refine below_set ?_ (IsS56.ge HI500.out)) | exact HB.out)))); have n4_ := Aside0.mk (IsS56.below (is56_ HI500.out) hb); have n5_ := Aside0.mk (below_step (by repeat (first | (with_reducible first | exact HB.out | apply below_alloc | apply pw_below_drewN | apply below_drew1 | refine below_set ?_ (IsS56.ge HI500.out)) | exact HB.out)) hb); clear HO_3; clear HO_4; clear HO_8; clear HI500; clear HB; have HO_3 := n0_; have HO_4 := n1_; have HO_8 := n2_; have HO507 := n3_; have HI500 := n4_; have HB := n5_; clear n0_ n1_ n2_ n3_ n4_ n5_; (try clear hb); (try clear hb2); (try clear hk); (try clear hi); (try clear ho0); obtain ⟨Ao78, co78, eo78⟩ := Kd.R_slice HO507.out; subst eo78) | ((with_reducible refine gate_callee (f := 7) rfl ?_); refine goesL_ (some 98) rfl rfl Try.func7 kr_ rfl #[.slice Ao78 t504.length co78] rfl ta_ ?_; (with_reducible refine (impl_OneSidedForm.calls kj9 _ _ t504 t508 t509 _ ?side1 ?side2 A60.out).mono ?_); (case side1 => exact ca_ (Kd.R_reads' HO507.out).2.2); (case side2 => exact (Kd.R_reads' HO507.out).2.1); rintro e w79 ⟨v510, rfl, ho0, hb⟩; refine ⟨_, rfl, ?_⟩; have n0_ := Aside0.mk (Kd.R_elder' (ra_ HO_3.out) (Kd.R_base ho0) hb); have n1_ := Aside0.mk (Kd.R_elder' (ra_ HO_4.out) (Kd.R_base ho0) hb); have n2_ := Aside0.mk (Kd.R_elder' (ra_ HO_8.out) (Kd.R_base ho0) hb); have n3_ := Aside0.mk (Kd.R_elder' (ra_ HO507.out) (Kd.R_base ho0) hb); have n4_ := Aside0.mk (Kd.R_lower (Kd.R_new' (Kd.R_new' (Kd.R_new' (Kd.R_new' ho0 (Kd.R_lt (ra_ HO_3.out))) (Kd.R_lt (ra_ HO_4.out))) (Kd.R_lt (ra_ HO_8.out))) (Kd.R_lt (ra_ HO507.out))) (below_size (by repeat (first | (with_reducible first | exact HB.out | apply below_alloc | apply pw_below_drewN | apply below_drew1 | refine below_set ?_ (IsS56.ge HI500.out)) | exact HB.out)))); have n5_ := Aside0.mk (IsS56.below (is56_ HI500.out) hb); have n6_ := Aside0.mk (below_step (by repeat (first | (with_reducible first | exact HB.out | apply below_alloc | apply pw_below_drewN | apply below_drew1 | refine below_set ?_ (IsS56.ge HI500.out)) | exact HB.out)) hb); clear HO_3; clear HO_4; clear HO_8; clear HO507; clear HI500; clear HB; have HO_3 := n0_; have HO_4 := n1_; have HO_8 := n2_; have HO507 := n3_; have HO511 := n4_; have HI500 := n5_; have HB := n6_; clear n0_ n1_ n2_ n3_ n4_ n5_ n6_; (try clear hb); (try clear hb2); (try clear hk); (try clear hi); (try clear ho0); obtain ⟨Ao80, co80, eo80⟩ := Kd.R_slice HO511.out; subst eo80; obtain ⟨Ao81, co81, eo81⟩ := Kd.R_slice HO_4.out; subst eo81) | (go_at_call 12; (with_reducible refine (laws_likeCells.calls kj9 _ _ t508 _ _ t469 false _ ?side1 ?side2 ?side3 ?side4 A63.out).mono ?_); (case side1 => exact ca_ (Kd.R_reads' HO511.out).2.2); (case side2 => exact (Kd.R_reads' HO511.out).2.1); (case side3 => exact ca_ (Kd.R_reads' HO_4.out).2.2); (case side4 => exact (Kd.R_reads' HO_4.out).2.1); rintro e w' ⟨rfl, ⟨nd, rfl⟩⟩))
         go_ret
         exact ⟨er_, by repeat (first | (with_reducible first | exact HB.out | apply below_alloc | apply pw_below_drewN | apply below_drew1 | refine below_set ?_ (IsS56.ge HI500.out)) | exact HB.out)⟩
       ·rw [if_neg c62] at H
        have c62b0 : (t509 == 0) = false := beq_eq_false_iff_ne.mpr c62
        have c62b1 : (t509 != 0) = true := bne_iff_ne.mpr c62
        obtain rfl := Option.some.inj H
        go_wp2_with (first | ((with_reducible refine gate_callee (f := 16) rfl ?_); refine goesL_ (some 91) rfl rfl Try.func16 kr_ rfl #[.slice A0 l0.length c0, .int .u64 303] rfl ta_ ?_; (with_reducible refine (laws_roll.calls kj9 _ _ l0 303 t497 t498 t499 w _ ?side1 ?side2 ?side3 A57.out).mono ?_); (case side1 => repeat (first | (with_reducible first | exact HB.out | apply below_alloc | apply pw_below_drewN | apply below_drew1) | exact HB.out)); (case side2 => exact HR0.out); (case side3 => exact HC0.out); rintro e w82 ⟨g500, rfl, hi, hb, hb2⟩; refine ⟨_, rfl, ?_⟩; have n0_ := Aside0.mk (Kd.R_below (ra_ HO_3.out) hb2); have n1_ := Aside0.mk (Kd.R_below (ra_ HO_4.out) hb2); have n2_ := Aside0.mk (Kd.R_below (ra_ HO_8.out) hb2); have n3_ := Aside0.mk (hb); have n4_ := Aside0.mk (hi); clear HO_3; clear HO_4; clear HO_8; clear HB; have HO_3 := n0_; have HO_4 := n1_; have HO_8 := n2_; have HB := n3_; have HI500 := n4_; clear n0_ n1_ n2_ n3_ n4_; (try clear hb); (try clear hb2); (try clear hk); (try clear hi)) | ((with_reducible refine gate_callee (f := 17) rfl ?_); refine goesL_ (some 92) rfl rfl Try.func17 kr_ rfl #[.pointer (some ⟨g500, 0, none⟩), .int .i64 4] rfl ta_ ?_; (with_reducible refine (laws_dice_below.calls g500 t497 t498 t499 4 t501 t502 t503 w _ ?side1 ?side2 A58.out).mono ?_); (case side1 => exact is56_ HI500.out); (case side2 => repeat (first | (with_reducible first | exact HB.out | apply below_alloc | apply pw_below_drewN | apply below_drew1 | refine below_set ?_ (IsS56.ge HI500.out)) | exact HB.out)); rintro e w83 ⟨rfl, hi, hb, hk⟩; refine ⟨_, rfl, ?_⟩; have n0_ := Aside0.mk (Kd.R_mono (Kd.R_keep (IsS56.apart (show IsS56 w _ g500 t497 t498 t499 from is56_ HI500.out) (ra_ HO_3.out) (by decide)) hk (fun _ h => h.2)) (fun _ h => h.1)); have n1_ := Aside0.mk (Kd.R_mono (Kd.R_keep (IsS56.apart (show IsS56 w _ g500 t497 t498 t499 from is56_ HI500.out) (ra_ HO_4.out) (by decide)) hk (fun _ h => h.2)) (fun _ h => h.1)); have n2_ := Aside0.mk (Kd.R_mono (Kd.R_keep (IsS56.apart (show IsS56 w _ g500 t497 t498 t499 from is56_ HI500.out) (ra_ HO_8.out) (by decide)) hk (fun _ h => h.2)) (fun _ h => h.1)); have n3_ := Aside0.mk (hb); have n4_ := Aside0.mk (hi); clear HO_3; clear HO_4; clear HO_8; clear HB; clear HI500; have HO_3 := n0_; have HO_4 := n1_; have HO_8 := n2_; have HB := n3_; have HI500 := n4_; clear n0_ n1_ n2_ n3_ n4_; (try clear hb); (try clear hb2); (try clear hk); (try clear hi)) | ((with_reducible refine gate_callee (f := 15) rfl ?_); refine goesL_ (some 93) rfl rfl Try.func15 kr_ rfl #[.slice Ao12 t466.length co12, .int .i64 t501] rfl ta_ ?_; (with_reducible refine (impl_TurnShape.calls kj9 _ _ t466 t501 t504 t505 _ ?side1 ?side2 A59.out).mono ?_); (case side1 => exact ca_ (Kd.R_reads' HO_3.out).2.2); (case side2 => exact (Kd.R_reads' HO_3.out).2.1); rintro e w84 ⟨v506, rfl, ho0, hb⟩; refine ⟨_, rfl, ?_⟩; have n0_ := Aside0.mk (Kd.R_elder' (ra_ HO_3.out) (Kd.R_base ho0) hb); have n1_ := Aside0.mk (Kd.R_elder' (ra_ HO_4.out) (Kd.R_base ho0) hb); have n2_ := Aside0.mk (Kd.R_elder' (ra_ HO_8.out) (Kd.R_base ho0) hb); have n3_ := Aside0.mk (Kd.R_lower (Kd.R_new' (Kd.R_new' (Kd.R_new' ho0 (Kd.R_lt (ra_ HO_3.out))) (Kd.R_lt (ra_ HO_4.out))) (Kd.R_lt (ra_ HO_8.out))) (below_size (by repeat (first | (with_reducible first | exact HB.out | apply below_alloc | apply pw_below_drewN | apply below_drew1 | refine below_set ?_ (IsS56.ge HI500.out)) | exact HB.out)))); have n4_ := Aside0.mk (IsS56.below (is56_ HI500.out) hb); have n5_ := Aside0.mk (below_step (by repeat (first | (with_reducible first | exact HB.out | apply below_alloc | apply pw_below_drewN | apply below_drew1 | refine below_set ?_ (IsS56.ge HI500.out)) | exact HB.out)) hb); clear HO_3; clear HO_4; clear HO_8; clear HI500; clear HB; have HO_3 := n0_; have HO_4 := n1_; have HO_8 := n2_; have HO507 := n3_; have HI500 := n4_; have HB := n5_; clear n0_ n1_ n2_ n3_ n4_ n5_; (try clear hb); (try clear hb2); (try clear hk); (try clear hi); (try clear ho0); obtain ⟨Ao85, co85, eo85⟩ := Kd.R_slice HO507.out; subst eo85) | ((with_reducible refine gate_callee (f := 7) rfl ?_); refine goesL_ (some 98) rfl rfl Try.func7 kr_ rfl #[.slice Ao85 t504.length co85] rfl ta_ ?_; (with_reducible refine (impl_OneSidedForm.calls kj9 _ _ t504 t508 t509 _ ?side1 ?side2 A60.out).mono ?_); (case side1 => exact ca_ (Kd.R_reads' HO507.out).2.2); (case side2 => exact (Kd.R_reads' HO507.out).2.1); rintro e w86 ⟨v510, rfl, ho0, hb⟩; refine ⟨_, rfl, ?_⟩; have n0_ := Aside0.mk (Kd.R_elder' (ra_ HO_3.out) (Kd.R_base ho0) hb); have n1_ := Aside0.mk (Kd.R_elder' (ra_ HO_4.out) (Kd.R_base ho0) hb); have n2_ := Aside0.mk (Kd.R_elder' (ra_ HO_8.out) (Kd.R_base ho0) hb); have n3_ := Aside0.mk (Kd.R_elder' (ra_ HO507.out) (Kd.R_base ho0) hb); have n4_ := Aside0.mk (Kd.R_lower (Kd.R_new' (Kd.R_new' (Kd.R_new' (Kd.R_new' ho0 (Kd.R_lt (ra_ HO_3.out))) (Kd.R_lt (ra_ HO_4.out))) (Kd.R_lt (ra_ HO_8.out))) (Kd.R_lt (ra_ HO507.out))) (below_size (by repeat (first | (with_reducible first | exact HB.out | apply below_alloc | apply pw_below_drewN | apply below_drew1 | refine below_set ?_ (IsS56.ge HI500.out)) | exact HB.out)))); have n5_ := Aside0.mk (IsS56.below (is56_ HI500.out) hb); have n6_ := Aside0.mk (below_step (by repeat (first | (with_reducible first | exact HB.out | apply below_alloc | apply pw_below_drewN | apply below_drew1 | refine below_set ?_ (IsS56.ge HI500.out)) | exact HB.out)) hb); clear HO_3; clear HO_4; clear HO_8; clear HO507; clear HI500; clear HB; have HO_3 := n0_; have HO_4 := n1_; have HO_8 := n2_; have HO507 := n3_; have HO511 := n4_; have HI500 := n5_; have HB := n6_; clear n0_ n1_ n2_ n3_ n4_ n5_ n6_; (try clear hb); (try clear hb2); (try clear hk); (try clear hi); (try clear ho0)))
        go_ret
        exact ⟨er_, by repeat (first | (with_reducible first | exact HB.out | apply below_alloc | apply pw_below_drewN | apply below_drew1 | refine below_set ?_ (IsS56.ge HI500.out)) | exact HB.out)⟩
      ·rw [if_neg c61] at H
       have c61b0 : (t505 == 0) = false := beq_eq_false_iff_ne.mpr c61
       have c61b1 : (t505 != 0) = true := bne_iff_ne.mpr c61
       obtain rfl := Option.some.inj H
       go_wp2_with (first | ((with_reducible refine gate_callee (f := 16) rfl ?_); refine goesL_ (some 91) rfl rfl Try.func16 kr_ rfl #[.slice A0 l0.length c0, .int .u64 303] rfl ta_ ?_; (with_reducible refine (laws_roll.calls kj9 _ _ l0 303 t497 t498 t499 w _ ?side1 ?side2 ?side3 A57.out).mono ?_); (case side1 => repeat (first | (with_reducible first | exact HB.out | apply below_alloc | apply pw_below_drewN | apply below_drew1) | exact HB.out)); (case side2 => exact HR0.out); (case side3 => exact HC0.out); rintro e w87 ⟨g500, rfl, hi, hb, hb2⟩; refine ⟨_, rfl, ?_⟩; have n0_ := Aside0.mk (Kd.R_below (ra_ HO_3.out) hb2); have n1_ := Aside0.mk (Kd.R_below (ra_ HO_4.out) hb2); have n2_ := Aside0.mk (Kd.R_below (ra_ HO_8.out) hb2); have n3_ := Aside0.mk (hb); have n4_ := Aside0.mk (hi); clear HO_3; clear HO_4; clear HO_8; clear HB; have HO_3 := n0_; have HO_4 := n1_; have HO_8 := n2_; have HB := n3_; have HI500 := n4_; clear n0_ n1_ n2_ n3_ n4_; (try clear hb); (try clear hb2); (try clear hk); (try clear hi)) | ((with_reducible refine gate_callee (f := 17) rfl ?_); refine goesL_ (some 92) rfl rfl Try.func17 kr_ rfl #[.pointer (some ⟨g500, 0, none⟩), .int .i64 4] rfl ta_ ?_; (with_reducible refine (laws_dice_below.calls g500 t497 t498 t499 4 t501 t502 t503 w _ ?side1 ?side2 A58.out).mono ?_); (case side1 => exact is56_ HI500.out); (case side2 => repeat (first | (with_reducible first | exact HB.out | apply below_alloc | apply pw_below_drewN | apply below_drew1 | refine below_set ?_ (IsS56.ge HI500.out)) | exact HB.out)); rintro e w88 ⟨rfl, hi, hb, hk⟩; refine ⟨_, rfl, ?_⟩; have n0_ := Aside0.mk (Kd.R_mono (Kd.R_keep (IsS56.apart (show IsS56 w _ g500 t497 t498 t499 from is56_ HI500.out) (ra_ HO_3.out) (by decide)) hk (fun _ h => h.2)) (fun _ h => h.1)); have n1_ := Aside0.mk (Kd.R_mono (Kd.R_keep (IsS56.apart (show IsS56 w _ g500 t497 t498 t499 from is56_ HI500.out) (ra_ HO_4.out) (by decide)) hk (fun _ h => h.2)) (fun _ h => h.1)); have n2_ := Aside0.mk (Kd.R_mono (Kd.R_keep (IsS56.apart (show IsS56 w _ g500 t497 t498 t499 from is56_ HI500.out) (ra_ HO_8.out) (by decide)) hk (fun _ h => h.2)) (fun _ h => h.1)); have n3_ := Aside0.mk (hb); have n4_ := Aside0.mk (hi); clear HO_3; clear HO_4; clear HO_8; clear HB; clear HI500; have HO_3 := n0_; have HO_4 := n1_; have HO_8 := n2_; have HB := n3_; have HI500 := n4_; clear n0_ n1_ n2_ n3_ n4_; (try clear hb); (try clear hb2); (try clear hk); (try clear hi)) | ((with_reducible refine gate_callee (f := 15) rfl ?_); refine goesL_ (some 93) rfl rfl Try.func15 kr_ rfl #[.slice Ao12 t466.length co12, .int .i64 t501] rfl ta_ ?_; (with_reducible refine (impl_TurnShape.calls kj9 _ _ t466 t501 t504 t505 _ ?side1 ?side2 A59.out).mono ?_); (case side1 => exact ca_ (Kd.R_reads' HO_3.out).2.2); (case side2 => exact (Kd.R_reads' HO_3.out).2.1); rintro e w89 ⟨v506, rfl, ho0, hb⟩; refine ⟨_, rfl, ?_⟩; have n0_ := Aside0.mk (Kd.R_elder' (ra_ HO_3.out) (Kd.R_base ho0) hb); have n1_ := Aside0.mk (Kd.R_elder' (ra_ HO_4.out) (Kd.R_base ho0) hb); have n2_ := Aside0.mk (Kd.R_elder' (ra_ HO_8.out) (Kd.R_base ho0) hb); have n3_ := Aside0.mk (Kd.R_lower (Kd.R_new' (Kd.R_new' (Kd.R_new' ho0 (Kd.R_lt (ra_ HO_3.out))) (Kd.R_lt (ra_ HO_4.out))) (Kd.R_lt (ra_ HO_8.out))) (below_size (by repeat (first | (with_reducible first | exact HB.out | apply below_alloc | apply pw_below_drewN | apply below_drew1 | refine below_set ?_ (IsS56.ge HI500.out)) | exact HB.out)))); have n4_ := Aside0.mk (IsS56.below (is56_ HI500.out) hb); have n5_ := Aside0.mk (below_step (by repeat (first | (with_reducible first | exact HB.out | apply below_alloc | apply pw_below_drewN | apply below_drew1 | refine below_set ?_ (IsS56.ge HI500.out)) | exact HB.out)) hb); clear HO_3; clear HO_4; clear HO_8; clear HI500; clear HB; have HO_3 := n0_; have HO_4 := n1_; have HO_8 := n2_; have HO507 := n3_; have HI500 := n4_; have HB := n5_; clear n0_ n1_ n2_ n3_ n4_ n5_; (try clear hb); (try clear hb2); (try clear hk); (try clear hi); (try clear ho0); obtain ⟨Ao90, co90, eo90⟩ := Kd.R_slice HO507.out; subst eo90) | ((with_reducible refine gate_callee (f := 7) rfl ?_); refine goesL_ (some 98) rfl rfl Try.func7 kr_ rfl #[.slice Ao90 t504.length co90] rfl ta_ ?_; (with_reducible refine (impl_OneSidedForm.calls kj9 _ _ t504 t508 t509 _ ?side1 ?side2 A60.out).mono ?_); (case side1 => exact ca_ (Kd.R_reads' HO507.out).2.2); (case side2 => exact (Kd.R_reads' HO507.out).2.1); rintro e w91 ⟨v510, rfl, ho0, hb⟩; refine ⟨_, rfl, ?_⟩; have n0_ := Aside0.mk (Kd.R_elder' (ra_ HO_3.out) (Kd.R_base ho0) hb); have n1_ := Aside0.mk (Kd.R_elder' (ra_ HO_4.out) (Kd.R_base ho0) hb); have n2_ := Aside0.mk (Kd.R_elder' (ra_ HO_8.out) (Kd.R_base ho0) hb); have n3_ := Aside0.mk (Kd.R_elder' (ra_ HO507.out) (Kd.R_base ho0) hb); have n4_ := Aside0.mk (Kd.R_lower (Kd.R_new' (Kd.R_new' (Kd.R_new' (Kd.R_new' ho0 (Kd.R_lt (ra_ HO_3.out))) (Kd.R_lt (ra_ HO_4.out))) (Kd.R_lt (ra_ HO_8.out))) (Kd.R_lt (ra_ HO507.out))) (below_size (by repeat (first | (with_reducible first | exact HB.out | apply below_alloc | apply pw_below_drewN | apply below_drew1 | refine below_set ?_ (IsS56.ge HI500.out)) | exact HB.out)))); have n5_ := Aside0.mk (IsS56.below (is56_ HI500.out) hb); have n6_ := Aside0.mk (below_step (by repeat (first | (with_reducible first | exact HB.out | apply below_alloc | apply pw_below_drewN | apply below_drew1 | refine below_set ?_ (IsS56.ge HI500.out)) | exact HB.out)) hb); clear HO_3; clear HO_4; clear HO_8; clear HO507; clear HI500; clear HB; have HO_3 := n0_; have HO_4 := n1_; have HO_8 := n2_; have HO507 := n3_; have HO511 := n4_; have HI500 := n5_; have HB := n6_; clear n0_ n1_ n2_ n3_ n4_ n5_ n6_; (try clear hb); (try clear hb2); (try clear hk); (try clear hi); (try clear ho0)))
       go_ret
       exact ⟨er_, by repeat (first | (with_reducible first | exact HB.out | apply below_alloc | apply pw_below_drewN | apply below_drew1 | refine below_set ?_ (IsS56.ge HI500.out)) | exact HB.out)⟩
     ·rw [if_neg c56] at H
      have c56b0 : (t470 == 0) = false := beq_eq_false_iff_ne.mpr c56
      have c56b1 : (t470 != 0) = true := bne_iff_ne.mpr c56
      obtain rfl := Option.some.inj H
      go_wp2
      go_ret
      exact ⟨er_, bl0_⟩

end Go.Proofs.Ytaaodakmelihaaa.PFnOneSided
