/- Over the kit's printer by a driver of mine (hprint.py), with parts by hand: functions of the program as Lean functions, and that each call comes to exactly these answers. -/
import Derived.Test.YtopceddgiddhlaaDoorPFnMirroredx0
import Derived.Test.YtopceddgiddhlaaDoorPFnMirroredx2
import Derived.Test.YtopceddgiddhlaaDoorPFnMirroredx4
namespace Go.Proofs.YtopceddgiddhlaaDoor.PFnMirrored
open Go.RowKit Go.Proofs.YtopceddgiddhlaaDoorW.PrintWords Go.Proofs.YtopceddgiddhlaaDoorW.PrintLast Go.Proofs.YtopceddgiddhlaaDoorW.PrintMore
attribute [local go_sem] max2_int min2_int max_two min_two max_three min_three max_four min_four   -- for this text's walks alone
set_option linter.unusedVariables false
set_option linter.unusedSimpArgs false

/-! ### spec_l02Draw: function 33 -/
def spec_l02Draw.l0 : Nat → List (S78) → Int → List Int → Int → Int → Option ((List (S78)) × Int × Int)
 | 0, _, _, _, _, _ => none
 | k + 1, x5, x6, x1000, x1001, x1002 => (spec_l01Next.f x1000 x1001 x1002 2).bind fun bt231 => (if x6 < (wrap64 (40 + bt231.1)) then (if x5.length < 8796093022208 then (spec_l02Draw.l0 k (x5 ++ [(⟨x6, 0⟩ : S78)]) (wrap64 (x6 + 1)) x1000 bt231.2.1 bt231.2.2) else (none)) else (some (x5, bt231.2.1, bt231.2.2)))
def spec_l02Draw.f (k : Nat) (s0_0 : List Int) (s0_1 : Int) (s0_2 : Int) : Option ((List (S78)) × Int × Int) := (spec_l02DrawPoly.f k s0_0 s0_1 s0_2 8).bind fun bt193 => ((spec_l01Next.f s0_0 bt193.2.1 bt193.2.2 9).bind fun bt198 => ((spec_l01Next.f s0_0 bt198.2.1 bt198.2.2 9).bind fun bt201 => ((spec_l02Move.f k bt193.1 (wrap64 (bt198.1 - 4)) (wrap64 (bt201.1 - 4))).bind fun t204 => ((spec_l01Next.f s0_0 bt201.2.1 bt201.2.2 (t204.length : Int)).bind fun bt207 => ((spec_l01Next.f s0_0 bt207.2.1 bt207.2.2 24).bind fun bt210 => (if bt210.1 = 0 then ((some (([(-100), 100, 101] : List Int) : List Int)).bind fun y213 => ((spec_l01Next.f s0_0 bt210.2.1 bt210.2.2 3).bind fun bt216 => (if 0 ≤ bt216.1 then (if bt216.1 < (y213.length : Int) then (if 0 ≤ bt207.1 then (if bt207.1 < (t204.length : Int) then ((spec_l02Sort.f k (t204.set (bt207.1 : Int).toNat (⟨rd y213 bt216.1, (rd_T78 t204 bt207.1).f1⟩ : S78))).bind fun t221 => (some (t221, bt216.2.1, bt216.2.2))) else (none)) else (none)) else (none)) else (none)))) else (if bt210.1 = 1 then (if 0 ≤ bt207.1 then (if bt207.1 < (t204.length : Int) then (if t204.length < 8796093022208 then (some ((t204 ++ [(⟨(rd_T78 t204 bt207.1).f0, (rd_T78 t204 bt207.1).f1⟩ : S78)]), bt210.2.1, bt210.2.2)) else (none)) else (none)) else (none)) else (if bt210.1 = 2 then (some (([] : List (S78)), bt210.2.1, bt210.2.2)) else (if bt210.1 = 3 then (spec_l02Draw.l0 k (([] : List (S78))) 0 s0_0 bt210.2.1 bt210.2.2) else (if bt210.1 = 4 then (if 0 < (t204.length : Int) then (if 0 ≤ (wrap64 ((t204.length : Int) - 1)) then (if (wrap64 ((t204.length : Int) - 1)) < (t204.length : Int) then (if t204.length < 8796093022208 then (some ((t204 ++ [(⟨wrap64 (((rd_T78 t204 0).f0) + 3), wrap64 (((rd_T78 t204 (wrap64 ((t204.length : Int) - 1))).f1) + 2)⟩ : S78)]), bt210.2.1, bt210.2.2)) else (none)) else (none)) else (none)) else (none)) else (if bt210.1 = 5 then (if 0 < (t204.length : Int) then (if 0 ≤ (wrap64 ((t204.length : Int) - 1)) then (if (wrap64 ((t204.length : Int) - 1)) < (t204.length : Int) then (if t204.length < 8796093022208 then (some ((t204 ++ [(⟨wrap64 (((rd_T78 t204 0).f0) + 3), wrap64 (((rd_T78 t204 (wrap64 ((t204.length : Int) - 1))).f1) + 2)⟩ : S78)]), bt210.2.1, bt210.2.2)) else (none)) else (none)) else (none)) else (none)) else (some (t204, bt210.2.1, bt210.2.2)))))))))))))
theorem spec_l02Draw.mono_l : ∀ k, (∀ y0 y1 y2 y3 y4, LeO (spec_l02Draw.l0 k y0 y1 y2 y3 y4) (spec_l02Draw.l0 (k + 1) y0 y1 y2 y3 y4))
 | 0 => fun _ _ _ _ _ r h => by simp [spec_l02Draw.l0] at h
 | k + 1 => by
  have ih0 := spec_l02Draw.mono_l k
  ·intro y0 y1 y2 y3 y4
   unfold spec_l02Draw.l0
   repeat' first
   | (with_reducible exact ih0 _ _ _ _ _)
   | (with_reducible exact spec_l02DrawPoly.mono _ _ _ _ _)
   | (with_reducible exact spec_l02Move.mono _ _ _ _)
   | (with_reducible exact spec_l02Sort.mono _ _)
   | (with_reducible exact LeO.refl _)
   | (with_reducible exact LeO.none _)
   | (with_reducible refine LeO.ite ?_ ?_)
   | (with_reducible refine LeO.bind ?_ (fun _ => ?_))
   | exact ih0 _ _ _ _ _
   | exact spec_l02DrawPoly.mono _ _ _ _ _
   | exact spec_l02Move.mono _ _ _ _
   | exact spec_l02Sort.mono _ _
   | exact LeO.none _
   | refine LeO.ite ?_ ?_
   | refine LeO.bind ?_ (fun _ => ?_)
theorem spec_l02Draw.mono : ∀ a0 a1 a2 k, LeO (spec_l02Draw.f k a0 a1 a2) (spec_l02Draw.f (k + 1) a0 a1 a2) := by
 intro a0 a1 a2 k
 have ih0 := spec_l02Draw.mono_l k
 unfold spec_l02Draw.f
 repeat' first
   | (with_reducible exact ih0 _ _ _ _ _)
   | (with_reducible exact spec_l02DrawPoly.mono _ _ _ _ _)
   | (with_reducible exact spec_l02Move.mono _ _ _ _)
   | (with_reducible exact spec_l02Sort.mono _ _)
   | (with_reducible exact LeO.refl _)
   | (with_reducible exact LeO.none _)
   | (with_reducible refine LeO.ite ?_ ?_)
   | (with_reducible refine LeO.bind ?_ (fun _ => ?_))
   | exact ih0 _ _ _ _ _
   | exact spec_l02DrawPoly.mono _ _ _ _ _
   | exact spec_l02Move.mono _ _ _ _
   | exact spec_l02Sort.mono _ _
   | exact LeO.none _
   | refine LeO.ite ?_ ?_
   | refine LeO.bind ?_ (fun _ => ?_)
def spec_l02Draw.T20 : Bool × List (List Nat × List Nat) := (true, [([], []), ([], []), ([1], [1]), ([2], [2]), ([3], [3]), ([4], [4]), ([], []), ([], []), ([7], [7]), ([8], [8]), ([6, 9], [6, 9]), ([10], [10]), ([11], [11]), ([12], [12]), ([5, 13], [5, 13]), ([14], [14]), ([0, 15], [0, 15]), ([16, 16, 0, 1, 2, 3, 4, 5, 6, 7, 8, 9, 10, 11, 12, 13, 14, 15, 16], [16])])
def spec_l02Draw.B20 : List Nat := [0, 0, 2, 6, 14, 30, 0, 0, 128, 384, 960, 1984, 4032, 8128, 16382, 32766, 65535, 131071]
theorem spec_l02Draw.tab20 : rtab .any (opsOf Tryd.f33 20) = spec_l02Draw.T20 := by kernel_rfl
theorem spec_l02Draw.bits20 : waitsOk spec_l02Draw.T20.2 spec_l02Draw.B20 = true := by kernel_rfl
set_option maxHeartbeats 8000000 in
set_option maxRecDepth 100000 in
theorem spec_l02Draw.calls (k : Nat) (g : Nat) (s0_0 : List Int) (s0_1 : Int) (s0_2 : Int) (r1 : List (S78)) (r2 : Int) (r3 : Int) (w0 w : World) (hI : IsS81 w0 w g s0_0 s0_1 s0_2) (hB : Below w0.heap.size w0 w) (h : spec_l02Draw.f k s0_0 s0_1 s0_2 = some (r1, r2, r3)) :
  Calls Tryd.prog 33 #[.pointer (some ⟨g, 0, none⟩)] w fun e w' => ∃ v0_ : Value, e = .returned (v0_) ∧ Kd.R k78 78 w' w.heap.size (fun _ => True) v0_ r1 ∧ IsS81 w0 w' g s0_0 r2 r3 ∧ Below w0.heap.size w0 w' ∧ KeepBut w w' g none := by
 have hu78 := Tryd.underlying78
 have HI0 := Aside0.mk hI
 have HK := Aside0.mk (KeepBut.refl w g none)
 have HL := Aside0.mk hB.size
 clear hI
 have HW0 := Aside0.mk hB.size
 have HB := Aside0.mk hB
 clear hB
 have H : ((spec_l02DrawPoly.f k s0_0 s0_1 s0_2 8).bind fun bt193 => ((spec_l01Next.f s0_0 bt193.2.1 bt193.2.2 9).bind fun bt198 => ((spec_l01Next.f s0_0 bt198.2.1 bt198.2.2 9).bind fun bt201 => ((spec_l02Move.f k bt193.1 (wrap64 (bt198.1 - 4)) (wrap64 (bt201.1 - 4))).bind fun t204 => ((spec_l01Next.f s0_0 bt201.2.1 bt201.2.2 (t204.length : Int)).bind fun bt207 => ((spec_l01Next.f s0_0 bt207.2.1 bt207.2.2 24).bind fun bt210 => (if bt210.1 = 0 then ((some (([(-100), 100, 101] : List Int) : List Int)).bind fun y213 => ((spec_l01Next.f s0_0 bt210.2.1 bt210.2.2 3).bind fun bt216 => (if 0 ≤ bt216.1 then (if bt216.1 < (y213.length : Int) then (if 0 ≤ bt207.1 then (if bt207.1 < (t204.length : Int) then ((spec_l02Sort.f k (t204.set (bt207.1 : Int).toNat (⟨rd y213 bt216.1, (rd_T78 t204 bt207.1).f1⟩ : S78))).bind fun t221 => (some (t221, bt216.2.1, bt216.2.2))) else (none)) else (none)) else (none)) else (none)))) else (if bt210.1 = 1 then (if 0 ≤ bt207.1 then (if bt207.1 < (t204.length : Int) then (if t204.length < 8796093022208 then (some ((t204 ++ [(⟨(rd_T78 t204 bt207.1).f0, (rd_T78 t204 bt207.1).f1⟩ : S78)]), bt210.2.1, bt210.2.2)) else (none)) else (none)) else (none)) else (if bt210.1 = 2 then (some (([] : List (S78)), bt210.2.1, bt210.2.2)) else (if bt210.1 = 3 then (spec_l02Draw.l0 k (([] : List (S78))) 0 s0_0 bt210.2.1 bt210.2.2) else (if bt210.1 = 4 then (if 0 < (t204.length : Int) then (if 0 ≤ (wrap64 ((t204.length : Int) - 1)) then (if (wrap64 ((t204.length : Int) - 1)) < (t204.length : Int) then (if t204.length < 8796093022208 then (some ((t204 ++ [(⟨wrap64 (((rd_T78 t204 0).f0) + 3), wrap64 (((rd_T78 t204 (wrap64 ((t204.length : Int) - 1))).f1) + 2)⟩ : S78)]), bt210.2.1, bt210.2.2)) else (none)) else (none)) else (none)) else (none)) else (if bt210.1 = 5 then (if 0 < (t204.length : Int) then (if 0 ≤ (wrap64 ((t204.length : Int) - 1)) then (if (wrap64 ((t204.length : Int) - 1)) < (t204.length : Int) then (if t204.length < 8796093022208 then (some ((t204 ++ [(⟨wrap64 (((rd_T78 t204 0).f0) + 3), wrap64 (((rd_T78 t204 (wrap64 ((t204.length : Int) - 1))).f1) + 2)⟩ : S78)]), bt210.2.1, bt210.2.2)) else (none)) else (none)) else (none)) else (none)) else (some (t204, bt210.2.1, bt210.2.2)))))))))))))) = some (r1, r2, r3) := h
 clear h
 replace H := Option.bind_eq_some_iff.mp H
 obtain ⟨⟨t193, t196, t197⟩, A20, H⟩ := H
 replace H : ((spec_l01Next.f s0_0 t196 t197 9).bind fun bt198 => ((spec_l01Next.f s0_0 bt198.2.1 bt198.2.2 9).bind fun bt201 => ((spec_l02Move.f k t193 (wrap64 (bt198.1 - 4)) (wrap64 (bt201.1 - 4))).bind fun t204 => ((spec_l01Next.f s0_0 bt201.2.1 bt201.2.2 (t204.length : Int)).bind fun bt207 => ((spec_l01Next.f s0_0 bt207.2.1 bt207.2.2 24).bind fun bt210 => (if bt210.1 = 0 then ((some (([(-100), 100, 101] : List Int) : List Int)).bind fun y213 => ((spec_l01Next.f s0_0 bt210.2.1 bt210.2.2 3).bind fun bt216 => (if 0 ≤ bt216.1 then (if bt216.1 < (y213.length : Int) then (if 0 ≤ bt207.1 then (if bt207.1 < (t204.length : Int) then ((spec_l02Sort.f k (t204.set (bt207.1 : Int).toNat (⟨rd y213 bt216.1, (rd_T78 t204 bt207.1).f1⟩ : S78))).bind fun t221 => (some (t221, bt216.2.1, bt216.2.2))) else (none)) else (none)) else (none)) else (none)))) else (if bt210.1 = 1 then (if 0 ≤ bt207.1 then (if bt207.1 < (t204.length : Int) then (if t204.length < 8796093022208 then (some ((t204 ++ [(⟨(rd_T78 t204 bt207.1).f0, (rd_T78 t204 bt207.1).f1⟩ : S78)]), bt210.2.1, bt210.2.2)) else (none)) else (none)) else (none)) else (if bt210.1 = 2 then (some (([] : List (S78)), bt210.2.1, bt210.2.2)) else (if bt210.1 = 3 then (spec_l02Draw.l0 k (([] : List (S78))) 0 s0_0 bt210.2.1 bt210.2.2) else (if bt210.1 = 4 then (if 0 < (t204.length : Int) then (if 0 ≤ (wrap64 ((t204.length : Int) - 1)) then (if (wrap64 ((t204.length : Int) - 1)) < (t204.length : Int) then (if t204.length < 8796093022208 then (some ((t204 ++ [(⟨wrap64 (((rd_T78 t204 0).f0) + 3), wrap64 (((rd_T78 t204 (wrap64 ((t204.length : Int) - 1))).f1) + 2)⟩ : S78)]), bt210.2.1, bt210.2.2)) else (none)) else (none)) else (none)) else (none)) else (if bt210.1 = 5 then (if 0 < (t204.length : Int) then (if 0 ≤ (wrap64 ((t204.length : Int) - 1)) then (if (wrap64 ((t204.length : Int) - 1)) < (t204.length : Int) then (if t204.length < 8796093022208 then (some ((t204 ++ [(⟨wrap64 (((rd_T78 t204 0).f0) + 3), wrap64 (((rd_T78 t204 (wrap64 ((t204.length : Int) - 1))).f1) + 2)⟩ : S78)]), bt210.2.1, bt210.2.2)) else (none)) else (none)) else (none)) else (none)) else (some (t204, bt210.2.1, bt210.2.2))))))))))))) = some (r1, r2, r3) := H
 have A2 := Aside0.mk A20
 clear A20
 replace H := Option.bind_eq_some_iff.mp H
 obtain ⟨⟨t198, t199, t200⟩, A30, H⟩ := H
 replace H : ((spec_l01Next.f s0_0 t199 t200 9).bind fun bt201 => ((spec_l02Move.f k t193 (wrap64 (t198 - 4)) (wrap64 (bt201.1 - 4))).bind fun t204 => ((spec_l01Next.f s0_0 bt201.2.1 bt201.2.2 (t204.length : Int)).bind fun bt207 => ((spec_l01Next.f s0_0 bt207.2.1 bt207.2.2 24).bind fun bt210 => (if bt210.1 = 0 then ((some (([(-100), 100, 101] : List Int) : List Int)).bind fun y213 => ((spec_l01Next.f s0_0 bt210.2.1 bt210.2.2 3).bind fun bt216 => (if 0 ≤ bt216.1 then (if bt216.1 < (y213.length : Int) then (if 0 ≤ bt207.1 then (if bt207.1 < (t204.length : Int) then ((spec_l02Sort.f k (t204.set (bt207.1 : Int).toNat (⟨rd y213 bt216.1, (rd_T78 t204 bt207.1).f1⟩ : S78))).bind fun t221 => (some (t221, bt216.2.1, bt216.2.2))) else (none)) else (none)) else (none)) else (none)))) else (if bt210.1 = 1 then (if 0 ≤ bt207.1 then (if bt207.1 < (t204.length : Int) then (if t204.length < 8796093022208 then (some ((t204 ++ [(⟨(rd_T78 t204 bt207.1).f0, (rd_T78 t204 bt207.1).f1⟩ : S78)]), bt210.2.1, bt210.2.2)) else (none)) else (none)) else (none)) else (if bt210.1 = 2 then (some (([] : List (S78)), bt210.2.1, bt210.2.2)) else (if bt210.1 = 3 then (spec_l02Draw.l0 k (([] : List (S78))) 0 s0_0 bt210.2.1 bt210.2.2) else (if bt210.1 = 4 then (if 0 < (t204.length : Int) then (if 0 ≤ (wrap64 ((t204.length : Int) - 1)) then (if (wrap64 ((t204.length : Int) - 1)) < (t204.length : Int) then (if t204.length < 8796093022208 then (some ((t204 ++ [(⟨wrap64 (((rd_T78 t204 0).f0) + 3), wrap64 (((rd_T78 t204 (wrap64 ((t204.length : Int) - 1))).f1) + 2)⟩ : S78)]), bt210.2.1, bt210.2.2)) else (none)) else (none)) else (none)) else (none)) else (if bt210.1 = 5 then (if 0 < (t204.length : Int) then (if 0 ≤ (wrap64 ((t204.length : Int) - 1)) then (if (wrap64 ((t204.length : Int) - 1)) < (t204.length : Int) then (if t204.length < 8796093022208 then (some ((t204 ++ [(⟨wrap64 (((rd_T78 t204 0).f0) + 3), wrap64 (((rd_T78 t204 (wrap64 ((t204.length : Int) - 1))).f1) + 2)⟩ : S78)]), bt210.2.1, bt210.2.2)) else (none)) else (none)) else (none)) else (none)) else (some (t204, bt210.2.1, bt210.2.2)))))))))))) = some (r1, r2, r3) := H
 have A3 := Aside0.mk A30
 clear A30
 replace H := Option.bind_eq_some_iff.mp H
 obtain ⟨⟨t201, t202, t203⟩, A40, H⟩ := H
 replace H : ((spec_l02Move.f k t193 (wrap64 (t198 - 4)) (wrap64 (t201 - 4))).bind fun t204 => ((spec_l01Next.f s0_0 t202 t203 (t204.length : Int)).bind fun bt207 => ((spec_l01Next.f s0_0 bt207.2.1 bt207.2.2 24).bind fun bt210 => (if bt210.1 = 0 then ((some (([(-100), 100, 101] : List Int) : List Int)).bind fun y213 => ((spec_l01Next.f s0_0 bt210.2.1 bt210.2.2 3).bind fun bt216 => (if 0 ≤ bt216.1 then (if bt216.1 < (y213.length : Int) then (if 0 ≤ bt207.1 then (if bt207.1 < (t204.length : Int) then ((spec_l02Sort.f k (t204.set (bt207.1 : Int).toNat (⟨rd y213 bt216.1, (rd_T78 t204 bt207.1).f1⟩ : S78))).bind fun t221 => (some (t221, bt216.2.1, bt216.2.2))) else (none)) else (none)) else (none)) else (none)))) else (if bt210.1 = 1 then (if 0 ≤ bt207.1 then (if bt207.1 < (t204.length : Int) then (if t204.length < 8796093022208 then (some ((t204 ++ [(⟨(rd_T78 t204 bt207.1).f0, (rd_T78 t204 bt207.1).f1⟩ : S78)]), bt210.2.1, bt210.2.2)) else (none)) else (none)) else (none)) else (if bt210.1 = 2 then (some (([] : List (S78)), bt210.2.1, bt210.2.2)) else (if bt210.1 = 3 then (spec_l02Draw.l0 k (([] : List (S78))) 0 s0_0 bt210.2.1 bt210.2.2) else (if bt210.1 = 4 then (if 0 < (t204.length : Int) then (if 0 ≤ (wrap64 ((t204.length : Int) - 1)) then (if (wrap64 ((t204.length : Int) - 1)) < (t204.length : Int) then (if t204.length < 8796093022208 then (some ((t204 ++ [(⟨wrap64 (((rd_T78 t204 0).f0) + 3), wrap64 (((rd_T78 t204 (wrap64 ((t204.length : Int) - 1))).f1) + 2)⟩ : S78)]), bt210.2.1, bt210.2.2)) else (none)) else (none)) else (none)) else (none)) else (if bt210.1 = 5 then (if 0 < (t204.length : Int) then (if 0 ≤ (wrap64 ((t204.length : Int) - 1)) then (if (wrap64 ((t204.length : Int) - 1)) < (t204.length : Int) then (if t204.length < 8796093022208 then (some ((t204 ++ [(⟨wrap64 (((rd_T78 t204 0).f0) + 3), wrap64 (((rd_T78 t204 (wrap64 ((t204.length : Int) - 1))).f1) + 2)⟩ : S78)]), bt210.2.1, bt210.2.2)) else (none)) else (none)) else (none)) else (none)) else (some (t204, bt210.2.1, bt210.2.2))))))))))) = some (r1, r2, r3) := H
 have A4 := Aside0.mk A40
 clear A40
 replace H := Option.bind_eq_some_iff.mp H
 obtain ⟨t204, A50, H⟩ := H
 replace H : ((spec_l01Next.f s0_0 t202 t203 (t204.length : Int)).bind fun bt207 => ((spec_l01Next.f s0_0 bt207.2.1 bt207.2.2 24).bind fun bt210 => (if bt210.1 = 0 then ((some (([(-100), 100, 101] : List Int) : List Int)).bind fun y213 => ((spec_l01Next.f s0_0 bt210.2.1 bt210.2.2 3).bind fun bt216 => (if 0 ≤ bt216.1 then (if bt216.1 < (y213.length : Int) then (if 0 ≤ bt207.1 then (if bt207.1 < (t204.length : Int) then ((spec_l02Sort.f k (t204.set (bt207.1 : Int).toNat (⟨rd y213 bt216.1, (rd_T78 t204 bt207.1).f1⟩ : S78))).bind fun t221 => (some (t221, bt216.2.1, bt216.2.2))) else (none)) else (none)) else (none)) else (none)))) else (if bt210.1 = 1 then (if 0 ≤ bt207.1 then (if bt207.1 < (t204.length : Int) then (if t204.length < 8796093022208 then (some ((t204 ++ [(⟨(rd_T78 t204 bt207.1).f0, (rd_T78 t204 bt207.1).f1⟩ : S78)]), bt210.2.1, bt210.2.2)) else (none)) else (none)) else (none)) else (if bt210.1 = 2 then (some (([] : List (S78)), bt210.2.1, bt210.2.2)) else (if bt210.1 = 3 then (spec_l02Draw.l0 k (([] : List (S78))) 0 s0_0 bt210.2.1 bt210.2.2) else (if bt210.1 = 4 then (if 0 < (t204.length : Int) then (if 0 ≤ (wrap64 ((t204.length : Int) - 1)) then (if (wrap64 ((t204.length : Int) - 1)) < (t204.length : Int) then (if t204.length < 8796093022208 then (some ((t204 ++ [(⟨wrap64 (((rd_T78 t204 0).f0) + 3), wrap64 (((rd_T78 t204 (wrap64 ((t204.length : Int) - 1))).f1) + 2)⟩ : S78)]), bt210.2.1, bt210.2.2)) else (none)) else (none)) else (none)) else (none)) else (if bt210.1 = 5 then (if 0 < (t204.length : Int) then (if 0 ≤ (wrap64 ((t204.length : Int) - 1)) then (if (wrap64 ((t204.length : Int) - 1)) < (t204.length : Int) then (if t204.length < 8796093022208 then (some ((t204 ++ [(⟨wrap64 (((rd_T78 t204 0).f0) + 3), wrap64 (((rd_T78 t204 (wrap64 ((t204.length : Int) - 1))).f1) + 2)⟩ : S78)]), bt210.2.1, bt210.2.2)) else (none)) else (none)) else (none)) else (none)) else (some (t204, bt210.2.1, bt210.2.2)))))))))) = some (r1, r2, r3) := H
 have A5 := Aside0.mk A50
 clear A50
 replace H := Option.bind_eq_some_iff.mp H
 obtain ⟨⟨t207, t208, t209⟩, A60, H⟩ := H
 replace H : ((spec_l01Next.f s0_0 t208 t209 24).bind fun bt210 => (if bt210.1 = 0 then ((some (([(-100), 100, 101] : List Int) : List Int)).bind fun y213 => ((spec_l01Next.f s0_0 bt210.2.1 bt210.2.2 3).bind fun bt216 => (if 0 ≤ bt216.1 then (if bt216.1 < (y213.length : Int) then (if 0 ≤ t207 then (if t207 < (t204.length : Int) then ((spec_l02Sort.f k (t204.set (t207 : Int).toNat (⟨rd y213 bt216.1, (rd_T78 t204 t207).f1⟩ : S78))).bind fun t221 => (some (t221, bt216.2.1, bt216.2.2))) else (none)) else (none)) else (none)) else (none)))) else (if bt210.1 = 1 then (if 0 ≤ t207 then (if t207 < (t204.length : Int) then (if t204.length < 8796093022208 then (some ((t204 ++ [(⟨(rd_T78 t204 t207).f0, (rd_T78 t204 t207).f1⟩ : S78)]), bt210.2.1, bt210.2.2)) else (none)) else (none)) else (none)) else (if bt210.1 = 2 then (some (([] : List (S78)), bt210.2.1, bt210.2.2)) else (if bt210.1 = 3 then (spec_l02Draw.l0 k (([] : List (S78))) 0 s0_0 bt210.2.1 bt210.2.2) else (if bt210.1 = 4 then (if 0 < (t204.length : Int) then (if 0 ≤ (wrap64 ((t204.length : Int) - 1)) then (if (wrap64 ((t204.length : Int) - 1)) < (t204.length : Int) then (if t204.length < 8796093022208 then (some ((t204 ++ [(⟨wrap64 (((rd_T78 t204 0).f0) + 3), wrap64 (((rd_T78 t204 (wrap64 ((t204.length : Int) - 1))).f1) + 2)⟩ : S78)]), bt210.2.1, bt210.2.2)) else (none)) else (none)) else (none)) else (none)) else (if bt210.1 = 5 then (if 0 < (t204.length : Int) then (if 0 ≤ (wrap64 ((t204.length : Int) - 1)) then (if (wrap64 ((t204.length : Int) - 1)) < (t204.length : Int) then (if t204.length < 8796093022208 then (some ((t204 ++ [(⟨wrap64 (((rd_T78 t204 0).f0) + 3), wrap64 (((rd_T78 t204 (wrap64 ((t204.length : Int) - 1))).f1) + 2)⟩ : S78)]), bt210.2.1, bt210.2.2)) else (none)) else (none)) else (none)) else (none)) else (some (t204, bt210.2.1, bt210.2.2))))))))) = some (r1, r2, r3) := H
 have A6 := Aside0.mk A60
 clear A60
 replace H := Option.bind_eq_some_iff.mp H
 obtain ⟨⟨t210, t211, t212⟩, A70, H⟩ := H
 replace H : (if t210 = 0 then ((some (([(-100), 100, 101] : List Int) : List Int)).bind fun y213 => ((spec_l01Next.f s0_0 t211 t212 3).bind fun bt216 => (if 0 ≤ bt216.1 then (if bt216.1 < (y213.length : Int) then (if 0 ≤ t207 then (if t207 < (t204.length : Int) then ((spec_l02Sort.f k (t204.set (t207 : Int).toNat (⟨rd y213 bt216.1, (rd_T78 t204 t207).f1⟩ : S78))).bind fun t221 => (some (t221, bt216.2.1, bt216.2.2))) else (none)) else (none)) else (none)) else (none)))) else (if t210 = 1 then (if 0 ≤ t207 then (if t207 < (t204.length : Int) then (if t204.length < 8796093022208 then (some ((t204 ++ [(⟨(rd_T78 t204 t207).f0, (rd_T78 t204 t207).f1⟩ : S78)]), t211, t212)) else (none)) else (none)) else (none)) else (if t210 = 2 then (some (([] : List (S78)), t211, t212)) else (if t210 = 3 then (spec_l02Draw.l0 k (([] : List (S78))) 0 s0_0 t211 t212) else (if t210 = 4 then (if 0 < (t204.length : Int) then (if 0 ≤ (wrap64 ((t204.length : Int) - 1)) then (if (wrap64 ((t204.length : Int) - 1)) < (t204.length : Int) then (if t204.length < 8796093022208 then (some ((t204 ++ [(⟨wrap64 (((rd_T78 t204 0).f0) + 3), wrap64 (((rd_T78 t204 (wrap64 ((t204.length : Int) - 1))).f1) + 2)⟩ : S78)]), t211, t212)) else (none)) else (none)) else (none)) else (none)) else (if t210 = 5 then (if 0 < (t204.length : Int) then (if 0 ≤ (wrap64 ((t204.length : Int) - 1)) then (if (wrap64 ((t204.length : Int) - 1)) < (t204.length : Int) then (if t204.length < 8796093022208 then (some ((t204 ++ [(⟨wrap64 (((rd_T78 t204 0).f0) + 3), wrap64 (((rd_T78 t204 (wrap64 ((t204.length : Int) - 1))).f1) + 2)⟩ : S78)]), t211, t212)) else (none)) else (none)) else (none)) else (none)) else (some (t204, t211, t212)))))))) = some (r1, r2, r3) := H
 have A7 := Aside0.mk A70
 clear A70
 by_cases c8 : t210 = 0
 ·rw [if_pos c8] at H
  have c8b0 : (t210 == 0) = true := beq_iff_eq.mpr c8
  have c8b1 : (t210 != 0) = false := bne_eq_false_iff_eq.mpr c8
  clear c8
  obtain ⟨y213, hy213⟩ : ∃ y_ : List Int, y_ = (([(-100), 100, 101] : List Int)) := ⟨_, rfl⟩
  replace H : ((spec_l01Next.f s0_0 t211 t212 3).bind fun bt216 => (if 0 ≤ bt216.1 then (if bt216.1 < (y213.length : Int) then (if 0 ≤ t207 then (if t207 < (t204.length : Int) then ((spec_l02Sort.f k (t204.set (t207 : Int).toNat (⟨rd y213 bt216.1, (rd_T78 t204 t207).f1⟩ : S78))).bind fun t221 => (some (t221, bt216.2.1, bt216.2.2))) else (none)) else (none)) else (none)) else (none))) = some (r1, r2, r3) := by first | (rw [hy213]; with_reducible exact H) | (have H2_ := (Option.bind_some _ _).symm.trans H; rw [hy213]; with_reducible exact H2_) | (have H2_ := (Option.bind_some _ _).symm.trans H; with_reducible exact H2_) | with_reducible exact H | (rw [hy213]; exact H) | exact H
  have Ny213 := Aside0.mk hy213
  clear hy213
  replace H := Option.bind_eq_some_iff.mp H
  obtain ⟨⟨t216, t217, t218⟩, A90, H⟩ := H
  replace H : (if 0 ≤ t216 then (if t216 < (y213.length : Int) then (if 0 ≤ t207 then (if t207 < (t204.length : Int) then ((spec_l02Sort.f k (t204.set (t207 : Int).toNat (⟨rd y213 t216, (rd_T78 t204 t207).f1⟩ : S78))).bind fun t221 => (some (t221, t217, t218))) else (none)) else (none)) else (none)) else (none)) = some (r1, r2, r3) := H
  have A9 := Aside0.mk A90
  clear A90
  by_cases c10 : 0 ≤ t216
  ·rw [if_pos c10] at H
   have c10b0 : decide (0 ≤ t216) = true := decide_eq_true c10
   clear c10
   by_cases c11 : t216 < (y213.length : Int)
   ·rw [if_pos c11] at H
    have c11b0 : decide (t216 < (y213.length : Int)) = true := decide_eq_true c11
    clear c11
    by_cases c12 : 0 ≤ t207
    ·rw [if_pos c12] at H
     have c12b0 : decide (0 ≤ t207) = true := decide_eq_true c12
     clear c12
     by_cases c13 : t207 < (t204.length : Int)
     ·rw [if_pos c13] at H
      have c13b0 : decide (t207 < (t204.length : Int)) = true := decide_eq_true c13
      clear c13
      obtain ⟨y220, hy220⟩ : ∃ y_ : List (S78), y_ = (t204.set (t207 : Int).toNat (⟨rd y213 t216, (rd_T78 t204 t207).f1⟩ : S78)) := ⟨_, rfl⟩
      replace H : ((spec_l02Sort.f k y220).bind fun t221 => (some (t221, t217, t218))) = some (r1, r2, r3) := by first | (rw [hy220]; with_reducible exact H) | (have H2_ := (Option.bind_some _ _).symm.trans H; rw [hy220]; with_reducible exact H2_) | (have H2_ := (Option.bind_some _ _).symm.trans H; with_reducible exact H2_) | with_reducible exact H | (rw [hy220]; exact H) | exact H
      have Ny220 := Aside0.mk hy220
      clear hy220
      replace H := Option.bind_eq_some_iff.mp H
      obtain ⟨t221, A150, H⟩ := H
      replace H : (some (t221, t217, t218)) = some (r1, r2, r3) := H
      have A15 := Aside0.mk A150
      clear A150
      simp only [Option.some.injEq, Prod.mk.injEq] at H
      obtain ⟨rfl, rfl, rfl⟩ := H
      go_enter Tryd.func33, Tryd.ntmps33
      go_wp2_with (first | ((with_reducible refine gate_callee (f := 62) rfl ?_); refine goesL_ (some 8) rfl rfl Tryd.func62 kr_ rfl #[.pointer (some ⟨g, 0, none⟩), .int .i64 8] rfl ta_ ?_; (with_reducible refine (spec_l02DrawPoly.calls k g s0_0 s0_1 s0_2 8 t193 t196 t197 w0 _ ?side1 ?side2 A2.out).mono ?_); (case side1 => exact is81_ HI0.out); (case side2 => repeat (first | (with_reducible first | exact HB.out | apply below_alloc | apply pw_below_drewN | apply below_drew1 | refine below_set ?_ (IsS81.ge HI0.out)) | exact HB.out)); rintro e w16 ⟨v194, rfl, ho0, hi, hb, hk⟩; refine ⟨_, rfl, ?_⟩; have n0_ := Aside0.mk (Kd.R_lower ho0 (keep_size (w := w) (g := g) (row := none) (kb0_))); have n1_ := Aside0.mk (KeepBut.trans (kb0_) hk (.inl rfl)); have n2_ := Aside0.mk (hb); have n3_ := Aside0.mk (hi); clear HK; clear HB; clear HI0; have HO195 := n0_; have HK := n1_; have HB := n2_; have HI0 := n3_; clear n0_ n1_ n2_ n3_; (try clear hb); (try clear hb2); (try clear hk); (try clear hi); (try clear ho0)) | ((with_reducible refine gate_callee (f := 58) rfl ?_); refine goesL_ (some 10) rfl rfl Tryd.func58 kr_ rfl #[.pointer (some ⟨g, 0, none⟩), .int .i64 9] rfl ta_ ?_; (with_reducible refine (spec_l01Next.calls g s0_0 t196 t197 9 t198 t199 t200 w0 _ ?side1 ?side2 A3.out).mono ?_); (case side1 => exact is81_ HI0.out); (case side2 => repeat (first | (with_reducible first | exact HB.out | apply below_alloc | apply pw_below_drewN | apply below_drew1 | refine below_set ?_ (IsS81.ge HI0.out)) | exact HB.out)); rintro e w17 ⟨rfl, hi, hb, hk⟩; refine ⟨_, rfl, ?_⟩; have n0_ := Aside0.mk (Kd.R_mono (Kd.R_keep (IsS81.apart (show IsS81 w0 _ g s0_0 t196 t197 from is81_ HI0.out) (ra_ HO195.out) (by decide)) hk (fun _ h => h.2)) (fun _ h => h.1)); have n1_ := Aside0.mk (KeepBut.trans (kb0_) hk (.inl rfl)); have n2_ := Aside0.mk (hb); have n3_ := Aside0.mk (hi); clear HO195; clear HK; clear HB; clear HI0; have HO195 := n0_; have HK := n1_; have HB := n2_; have HI0 := n3_; clear n0_ n1_ n2_ n3_; (try clear hb); (try clear hb2); (try clear hk); (try clear hi)) | ((with_reducible refine gate_callee (f := 58) rfl ?_); refine goesL_ (some 13) rfl rfl Tryd.func58 kr_ rfl #[.pointer (some ⟨g, 0, none⟩), .int .i64 9] rfl ta_ ?_; (with_reducible refine (spec_l01Next.calls g s0_0 t199 t200 9 t201 t202 t203 w0 _ ?side1 ?side2 A4.out).mono ?_); (case side1 => exact is81_ HI0.out); (case side2 => repeat (first | (with_reducible first | exact HB.out | apply below_alloc | apply pw_below_drewN | apply below_drew1 | refine below_set ?_ (IsS81.ge HI0.out)) | exact HB.out)); rintro e w18 ⟨rfl, hi, hb, hk⟩; refine ⟨_, rfl, ?_⟩; have n0_ := Aside0.mk (Kd.R_mono (Kd.R_keep (IsS81.apart (show IsS81 w0 _ g s0_0 t199 t200 from is81_ HI0.out) (ra_ HO195.out) (by decide)) hk (fun _ h => h.2)) (fun _ h => h.1)); have n1_ := Aside0.mk (KeepBut.trans (kb0_) hk (.inl rfl)); have n2_ := Aside0.mk (hb); have n3_ := Aside0.mk (hi); clear HO195; clear HK; clear HB; clear HI0; have HO195 := n0_; have HK := n1_; have HB := n2_; have HI0 := n3_; clear n0_ n1_ n2_ n3_; (try clear hb); (try clear hb2); (try clear hk); (try clear hi); obtain ⟨Ao19, co19, eo19⟩ := Kd.R_slice HO195.out; subst eo19) | ((with_reducible refine gate_callee (f := 61) rfl ?_); refine goesL_ (some 15) rfl rfl Tryd.func61 kr_ rfl #[.slice Ao19 t193.length co19, .int .i64 (wrap64 (t198 - 4)), .int .i64 (wrap64 (t201 - 4))] rfl ta_ ?_; (with_reducible refine (spec_l02Move.calls k _ _ t193 (wrap64 (t198 - 4)) (wrap64 (t201 - 4)) t204 _ ?side1 ?side2 A5.out).mono ?_); (case side1 => exact ca_ (Kd.R_reads' HO195.out).2.2); (case side2 => exact (Kd.R_reads' HO195.out).2.1); rintro e w20 ⟨v205, rfl, ho0, hb⟩; refine ⟨_, rfl, ?_⟩; have n0_ := Aside0.mk (Kd.R_elder' (ra_ HO195.out) (Kd.R_base ho0) hb); have n1_ := Aside0.mk (Kd.R_lower (Kd.R_new' ho0 (Kd.R_lt (ra_ HO195.out))) (keep_size (w := w) (g := g) (row := none) (kb0_))); have n2_ := Aside0.mk (IsS81.below (is81_ HI0.out) hb); have n3_ := Aside0.mk (KeepBut.trans (kb0_) (KeepBut.of_below hb g none) (.inl rfl)); have n4_ := Aside0.mk (below_step (by repeat (first | (with_reducible first | exact HB.out | apply below_alloc | apply pw_below_drewN | apply below_drew1 | refine below_set ?_ (IsS81.ge HI0.out)) | exact HB.out)) hb); clear HO195; clear HI0; clear HK; clear HB; have HO195 := n0_; have HO206 := n1_; have HI0 := n2_; have HK := n3_; have HB := n4_; clear n0_ n1_ n2_ n3_ n4_; (try clear hb); (try clear hb2); (try clear hk); (try clear hi); (try clear ho0); obtain ⟨Ao21, co21, eo21⟩ := Kd.R_slice HO206.out; subst eo21) | ((with_reducible refine gate_callee (f := 58) rfl ?_); refine goesL_ (some 19) rfl rfl Tryd.func58 kr_ rfl #[.pointer (some ⟨g, 0, none⟩), .int .i64 (t204.length : Int)] rfl ta_ ?_; (with_reducible refine (spec_l01Next.calls g s0_0 t202 t203 (t204.length : Int) t207 t208 t209 w0 _ ?side1 ?side2 A6.out).mono ?_); (case side1 => exact is81_ HI0.out); (case side2 => repeat (first | (with_reducible first | exact HB.out | apply below_alloc | apply pw_below_drewN | apply below_drew1 | refine below_set ?_ (IsS81.ge HI0.out)) | exact HB.out)); rintro e w22 ⟨rfl, hi, hb, hk⟩; refine ⟨_, rfl, ?_⟩; have n0_ := Aside0.mk (Kd.R_mono (Kd.R_keep (IsS81.apart (show IsS81 w0 _ g s0_0 t202 t203 from is81_ HI0.out) (ra_ HO195.out) (by decide)) hk (fun _ h => h.2)) (fun _ h => h.1)); have n1_ := Aside0.mk (Kd.R_mono (Kd.R_keep (IsS81.apart (show IsS81 w0 _ g s0_0 t202 t203 from is81_ HI0.out) (ra_ HO206.out) (by decide)) hk (fun _ h => h.2)) (fun _ h => h.1)); have n2_ := Aside0.mk (KeepBut.trans (kb0_) hk (.inl rfl)); have n3_ := Aside0.mk (hb); have n4_ := Aside0.mk (hi); clear HO195; clear HO206; clear HK; clear HB; clear HI0; have HO195 := n0_; have HO206 := n1_; have HK := n2_; have HB := n3_; have HI0 := n4_; clear n0_ n1_ n2_ n3_ n4_; (try clear hb); (try clear hb2); (try clear hk); (try clear hi)) | ((with_reducible refine gate_callee (f := 58) rfl ?_); refine goesL_ (some 21) rfl rfl Tryd.func58 kr_ rfl #[.pointer (some ⟨g, 0, none⟩), .int .i64 24] rfl ta_ ?_; (with_reducible refine (spec_l01Next.calls g s0_0 t208 t209 24 t210 t211 t212 w0 _ ?side1 ?side2 A7.out).mono ?_); (case side1 => exact is81_ HI0.out); (case side2 => repeat (first | (with_reducible first | exact HB.out | apply below_alloc | apply pw_below_drewN | apply below_drew1 | refine below_set ?_ (IsS81.ge HI0.out)) | exact HB.out)); rintro e w23 ⟨rfl, hi, hb, hk⟩; refine ⟨_, rfl, ?_⟩; have n0_ := Aside0.mk (Kd.R_mono (Kd.R_keep (IsS81.apart (show IsS81 w0 _ g s0_0 t208 t209 from is81_ HI0.out) (ra_ HO195.out) (by decide)) hk (fun _ h => h.2)) (fun _ h => h.1)); have n1_ := Aside0.mk (Kd.R_mono (Kd.R_keep (IsS81.apart (show IsS81 w0 _ g s0_0 t208 t209 from is81_ HI0.out) (ra_ HO206.out) (by decide)) hk (fun _ h => h.2)) (fun _ h => h.1)); have n2_ := Aside0.mk (KeepBut.trans (kb0_) hk (.inl rfl)); have n3_ := Aside0.mk (hb); have n4_ := Aside0.mk (hi); clear HO195; clear HO206; clear HK; clear HB; clear HI0; have HO195 := n0_; have HO206 := n1_; have HK := n2_; have HB := n3_; have HI0 := n4_; clear n0_ n1_ n2_ n3_ n4_; (try clear hb); (try clear hb2); (try clear hk); (try clear hi)) | ((with_reducible refine gate_dst (N := 26) rfl ?_); refine Kd.R_lit (Kd.int .i64) _ 2 ?hg (N := 26) ?hd (xs := ([(-100), 100, 101] : List Int)) (inner := [.int .i64 (-100), .int .i64 100, .int .i64 101]) (ok := fun _ => True) (okp := fun _ => True) ?hr ?hp (fun _ hk => hk) trivial (Below.refl _ _) (Nat.le_refl _) (by simp) ?_; (case hd => rfl); (case hg => rfl); (case hr => first | (go_simp; done) | (go_simp; rfl)); (case hp => exact (Reps.one (show Kd.M (Kd.int .i64) _ _ _ (-100) [.int .i64 (-100)] from rfl) (Reps.one (show Kd.M (Kd.int .i64) _ _ _ 100 [.int .i64 100] from rfl) (Reps.one (show Kd.M (Kd.int .i64) _ _ _ 101 [.int .i64 101] from rfl) (Reps.none _ _))))); intro v214 w24 ho25 hb hg_ hnew_; clear hg_ hnew_; (first | rw [← Ny213.out] at ho25 | (simp only [Int.reduceToNat] at ho25; rw [← Ny213.out] at ho25)); have n0_ := Aside0.mk (Kd.R_below (ra_ HO195.out) hb); have n1_ := Aside0.mk (Kd.R_below (ra_ HO206.out) hb); have n2_ := Aside0.mk (Kd.R_lower ho25 (keep_size (w := w) (g := g) (row := none) (kb0_))); have n3_ := Aside0.mk (IsS81.below (is81_ HI0.out) hb); have n4_ := Aside0.mk (KeepBut.trans (kb0_) (KeepBut.of_below hb g none) (.inl rfl)); have n5_ := Aside0.mk (below_step (by repeat (first | (with_reducible first | exact HB.out | apply below_alloc | apply pw_below_drewN | apply below_drew1 | refine below_set ?_ (IsS81.ge HI0.out)) | exact HB.out)) hb); clear HO195; clear HO206; clear HI0; clear HK; clear HB; have HO195 := n0_; have HO206 := n1_; have HO215 := n2_; have HI0 := n3_; have HK := n4_; have HB := n5_; clear n0_ n1_ n2_ n3_ n4_ n5_; clear hb ho25) | ((with_reducible refine gate_callee (f := 58) rfl ?_); refine goesL_ (some 28) rfl rfl Tryd.func58 kr_ rfl #[.pointer (some ⟨g, 0, none⟩), .int .i64 3] rfl ta_ ?_; (with_reducible refine (spec_l01Next.calls g s0_0 t211 t212 3 t216 t217 t218 w0 _ ?side1 ?side2 A9.out).mono ?_); (case side1 => exact is81_ HI0.out); (case side2 => repeat (first | (with_reducible first | exact HB.out | apply below_alloc | apply pw_below_drewN | apply below_drew1 | refine below_set ?_ (IsS81.ge HI0.out)) | exact HB.out)); rintro e w26 ⟨rfl, hi, hb, hk⟩; refine ⟨_, rfl, ?_⟩; have n0_ := Aside0.mk (Kd.R_mono (Kd.R_keep (IsS81.apart (show IsS81 w0 _ g s0_0 t211 t212 from is81_ HI0.out) (ra_ HO195.out) (by decide)) hk (fun _ h => h.2)) (fun _ h => h.1)); have n1_ := Aside0.mk (Kd.R_mono (Kd.R_keep (IsS81.apart (show IsS81 w0 _ g s0_0 t211 t212 from is81_ HI0.out) (ra_ HO206.out) (by decide)) hk (fun _ h => h.2)) (fun _ h => h.1)); have n2_ := Aside0.mk (Kd.R_mono (Kd.R_keep (IsS81.apart (show IsS81 w0 _ g s0_0 t211 t212 from is81_ HI0.out) (ra_ HO215.out) (by decide)) hk (fun _ h => h.2)) (fun _ h => h.1)); have n3_ := Aside0.mk (KeepBut.trans (kb0_) hk (.inl rfl)); have n4_ := Aside0.mk (hb); have n5_ := Aside0.mk (hi); clear HO195; clear HO206; clear HO215; clear HK; clear HB; clear HI0; have HO195 := n0_; have HO206 := n1_; have HO215 := n2_; have HK := n3_; have HB := n4_; have HI0 := n5_; clear n0_ n1_ n2_ n3_ n4_ n5_; (try clear hb); (try clear hb2); (try clear hk); (try clear hi); obtain ⟨Ao27, co27, eo27⟩ := Kd.R_slice HO215.out; subst eo27; have p219 : 0 ≤ (t216 : Int) := od_; have q219 : t216 < (y213.length : Int) := od_; obtain ⟨ad219, e219, hx219_0⟩ := Kd.at_int (Kd.R_reads' HO215.out).2.2 t216 p219 q219; cases e219; replace p219 := eq_true p219; replace q219 := eq_true q219; have p14 : 0 ≤ (t207 : Int) := od_; have q14 : (t207 : Int) < ((t204.length : Int) : Int) := od_; obtain ⟨go14, co14, eo14, gb14, gl14, cl14, HG14⟩ := Kd.R_form HO206.out (by omega); (first | cases eo14 | (injection eo14 with ea_ en_ ec_; (first | subst ea_ | (injection ea_ with ea_; subst ea_)); subst ec_; clear en_)); have GB14 := Aside0.mk gb14; have GG14 := Aside0.mk HG14; clear gb14 gl14 HG14; obtain ⟨ce14, hcl14, hM14, hcc14, hfr14⟩ := Kd.R_elem HO206.out z78 (t207 : Int) p14 q14; obtain rfl := k78_openM hM14; have hx14_0 : w26.cell? ⟨go14, (t207 : Int).toNat * 2, none⟩ = some (.int .i64 ((rd_T78 t204 t207).f0)) := hcc14 0 _ rfl; have hx14_1 : w26.cell? ⟨go14, (t207 : Int).toNat * 2 + 1, none⟩ = some (.int .i64 ((rd_T78 t204 t207).f1)) := hcc14 1 _ rfl; have hf14_0 : w26.frozen? ⟨go14, (t207 : Int).toNat * 2, none⟩ = false := hfr14 0; have hf14_1 : w26.frozen? ⟨go14, (t207 : Int).toNat * 2 + 1, none⟩ = false := hfr14 1; clear hcl14 hcc14 hfr14 hM14; replace p14 := eq_true p14; replace q14 := eq_true q14; have n_ := Aside0.mk (Kd.R_mono (ok' := (fun k_ => some k_ ≠ (.slice Ao19 t193.length co19 : Value).ownBlock)) HO206.out (fun k_ hk => hk.2)); clear HO206; have HO206 := n_; clear n_; have HX28 := Aside0.mk (show Kd.R k78 78 w26 w.heap.size (fun k_ => some k_ ≠ (.slice Ao19 t193.length co19 : Value).ownBlock) (.slice (some ⟨go14, 0, none⟩) t204.length co21) t204 from (ra_ HO206.out)); obtain ⟨ce28, hcl28, hM28, hcc28, hfr28⟩ := Kd.R_elem HX28.out z78 (t207 : Int) (od_) (by have h_ : (t207 : Int) < ((t204.length : Int) : Int) := od_; first | exact h_ | (have e_ := (Kd.R_reads' HO206.out).1; omega) | simpa using h_); obtain rfl := k78_openM hM28; have HP28 := Kd.R_seg HX28.out (t207 : Int) (od_) (by have h_ : (t207 : Int) < ((t204.length : Int) : Int) := od_; first | exact h_ | (have e_ := (Kd.R_reads' HO206.out).1; omega) | simpa using h_) (seg := [.int .i64 (rd y213 t216)]) (j := 0) hcl28 hcc28 (show 1 ≤ 2 from by decide) (x' := (⟨rd y213 t216, (rd_T78 t204 t207).f1⟩ : S78)) (k78_mkM _ _ _ (⟨rd y213 t216, (rd_T78 t204 t207).f1⟩ : S78) ) (fun _ hk => hk); have hx28_0 := hcc28 0 _ rfl; (try simp only [show (k78).sz = 2 from rfl, Nat.mul_one, Nat.add_zero] at hx28_0); have hf28_0 := hfr28 0; (try simp only [show (k78).sz = 2 from rfl, Nat.mul_one, Nat.add_zero] at hf28_0); clear hcl28 hcc28 hfr28 hM28) | ((with_reducible refine gate_store (t := 2) (p := 32) rfl ?_); refine store_event (t := 2) (p := 32) (v := ?vo_w29) (w1 := (w26.setCell ⟨go14, (t207 : Int).toNat * 2, none⟩ (.int .i64 (rd y213 t216)))) ?hg ?ho ?hn ?hr ?_; (case ho => rfl); (case hg => rfl); (case hn => rfl); (case hr => first | (go_simp; done) | (go_simp; rfl)); intro w29 hw; have hg : w26.grownBy w29 (some go14) := (by rw [hw]; exact HP28.2); have hp_ : Kd.R k78 78 w29 w.heap.size (fun k_ => some k_ ≠ (.slice Ao19 t193.length co19 : Value).ownBlock) (.slice (some ⟨go14, 0, none⟩) t204.length co21) y220 := (by rw [hw, Ny220.out]; exact HP28.1); clear HP28; have n0_ := Aside0.mk (IsS81.grown (is81_ HI0.out) hg (IsS81.own_ne HI0.out HO206.out (by decide))); have n1_ := Aside0.mk (Kd.R_after (v := (.slice (some ⟨go14, 0, none⟩) t204.length co21)) (v1 := (.slice (some ⟨go14, 0, none⟩) t204.length co21)) (ok := (fun _ => True)) (ra_ HO195.out) hg (.inl rfl)); have n2_ := Aside0.mk (hp_); have n3_ := Aside0.mk (Kd.R_over' (v := (.slice (some ⟨go14, 0, none⟩) t204.length co21)) (ra_ HO215.out) (Kd.R_typed HO206.out) (by decide) hg); have n4_ := Aside0.mk ((by rw [hw]; exact below_set (HB.out) (Nat.le_trans HL.out GB14.out) : Below w0.heap.size w0 w29)); have n5_ := Aside0.mk (KeepBut.trans (kb0_) (KeepBut.of_grown hg g) (Kd.R_base2 HO206.out)); clear HI0; clear HO195; clear HO206; clear HO215; clear HB; clear HK; have HI0 := n0_; have HO195 := n1_; have HO206 := n2_; have HO215 := n3_; have HB := n4_; have HK := n5_; clear n0_ n1_ n2_ n3_ n4_ n5_; clear hg hw hp_) | ((with_reducible refine gate_callee (f := 63) rfl ?_); refine goesL_ (some 34) rfl rfl Tryd.func63 kr_ rfl #[.slice (some ⟨go14, 0, none⟩) y220.length co21] rfl (by (try simp only [List.map_toArray, List.map_cons, List.map_nil]); first | done | (rw [show y220.length = t204.length from (Kd.R_reads' HO206.out).1.symm] <;> rfl) | rfl | (simp only [List.length_drop, List.length_take]; rfl)) ?_; (with_reducible refine (spec_l02Sort.calls k _ _ y220 t221 _ ?side1 ?side2 A15.out).mono ?_); (case side1 => exact ca_ (Kd.R_reads' HO206.out).2.2); (case side2 => rw [show y220.length = t204.length from (Kd.R_reads' HO206.out).1.symm]; exact (Kd.R_reads' HO206.out).2.1); rintro e w30 ⟨v222, rfl, ho0, hb⟩; refine ⟨_, rfl, ?_⟩; have n0_ := Aside0.mk (Kd.R_elder' (ra_ HO195.out) (Kd.R_base ho0) hb); have n1_ := Aside0.mk (Kd.R_elder' (ra_ HO206.out) (Kd.R_base ho0) hb); have n2_ := Aside0.mk (Kd.R_below (ra_ HO215.out) hb); have n3_ := Aside0.mk (Kd.R_lower (Kd.R_new' (Kd.R_new' ho0 (Kd.R_lt (ra_ HO195.out))) (Kd.R_lt (ra_ HO206.out))) (keep_size (w := w) (g := g) (row := none) (kb0_))); have n4_ := Aside0.mk (IsS81.below (is81_ HI0.out) hb); have n5_ := Aside0.mk (KeepBut.trans (kb0_) (KeepBut.of_below hb g none) (.inl rfl)); have n6_ := Aside0.mk (below_step (by repeat (first | (with_reducible first | exact HB.out | apply below_alloc | apply pw_below_drewN | apply below_drew1 | refine below_set ?_ (IsS81.ge HI0.out)) | exact HB.out)) hb); clear HO195; clear HO206; clear HO215; clear HI0; clear HK; clear HB; have HO195 := n0_; have HO206 := n1_; have HO215 := n2_; have HO223 := n3_; have HI0 := n4_; have HK := n5_; have HB := n6_; clear n0_ n1_ n2_ n3_ n4_ n5_ n6_; (try clear hb); (try clear hb2); (try clear hk); (try clear hi); (try clear ho0)))
      go_ret
      exact ⟨_, er_, by (with_reducible repeat (first | apply Kd.R_alloc | apply Kd.R_drewN | apply Kd.R_drew)); exact Kd.R_mono HO223.out (fun _ hk => trivial), is81_ HI0.out, by repeat (first | (with_reducible first | exact HB.out | apply below_alloc | apply pw_below_drewN | apply below_drew1 | refine below_set ?_ (IsS81.ge HI0.out)) | exact HB.out), kb0_⟩
     ·rw [if_neg c13] at H
      exact absurd H (by simp)
    ·rw [if_neg c12] at H
     exact absurd H (by simp)
   ·rw [if_neg c11] at H
    exact absurd H (by simp)
  ·rw [if_neg c10] at H
   exact absurd H (by simp)
 ·rw [if_neg c8] at H
  have c8b0 : (t210 == 0) = false := beq_eq_false_iff_ne.mpr c8
  have c8b1 : (t210 != 0) = true := bne_iff_ne.mpr c8
  by_cases c31 : t210 = 1
  ·rw [if_pos c31] at H
   have c31b0 : (t210 == 1) = true := beq_iff_eq.mpr c31
   have c31b1 : (t210 != 1) = false := bne_eq_false_iff_eq.mpr c31
   clear c31
   by_cases c32 : 0 ≤ t207
   ·rw [if_pos c32] at H
    have c32b0 : decide (0 ≤ t207) = true := decide_eq_true c32
    clear c32
    by_cases c33 : t207 < (t204.length : Int)
    ·rw [if_pos c33] at H
     have c33b0 : decide (t207 < (t204.length : Int)) = true := decide_eq_true c33
     clear c33
     by_cases c34 : t204.length < 8796093022208
     ·rw [if_pos c34] at H
      have LMc34 := Aside0.mk c34
      clear c34
      obtain ⟨y225, hy225⟩ : ∃ y_ : List (S78), y_ = (t204 ++ [(⟨(rd_T78 t204 t207).f0, (rd_T78 t204 t207).f1⟩ : S78)]) := ⟨_, rfl⟩
      replace H : (some (y225, t211, t212)) = some (r1, r2, r3) := by first | (rw [hy225]; with_reducible exact H) | (have H2_ := (Option.bind_some _ _).symm.trans H; rw [hy225]; with_reducible exact H2_) | (have H2_ := (Option.bind_some _ _).symm.trans H; with_reducible exact H2_) | with_reducible exact H | (rw [hy225]; exact H) | exact H
      have Ny225 := Aside0.mk hy225
      clear hy225
      simp only [Option.some.injEq, Prod.mk.injEq] at H
      obtain ⟨rfl, rfl, rfl⟩ := H
      go_enter Tryd.func33, Tryd.ntmps33
      go_wp2_with (first | ((with_reducible refine gate_callee (f := 62) rfl ?_); refine goesL_ (some 8) rfl rfl Tryd.func62 kr_ rfl #[.pointer (some ⟨g, 0, none⟩), .int .i64 8] rfl ta_ ?_; (with_reducible refine (spec_l02DrawPoly.calls k g s0_0 s0_1 s0_2 8 t193 t196 t197 w0 _ ?side1 ?side2 A2.out).mono ?_); (case side1 => exact is81_ HI0.out); (case side2 => repeat (first | (with_reducible first | exact HB.out | apply below_alloc | apply pw_below_drewN | apply below_drew1 | refine below_set ?_ (IsS81.ge HI0.out)) | exact HB.out)); rintro e w35 ⟨v194, rfl, ho0, hi, hb, hk⟩; refine ⟨_, rfl, ?_⟩; have n0_ := Aside0.mk (Kd.R_lower ho0 (keep_size (w := w) (g := g) (row := none) (kb0_))); have n1_ := Aside0.mk (KeepBut.trans (kb0_) hk (.inl rfl)); have n2_ := Aside0.mk (hb); have n3_ := Aside0.mk (hi); clear HK; clear HB; clear HI0; have HO195 := n0_; have HK := n1_; have HB := n2_; have HI0 := n3_; clear n0_ n1_ n2_ n3_; (try clear hb); (try clear hb2); (try clear hk); (try clear hi); (try clear ho0)) | ((with_reducible refine gate_callee (f := 58) rfl ?_); refine goesL_ (some 10) rfl rfl Tryd.func58 kr_ rfl #[.pointer (some ⟨g, 0, none⟩), .int .i64 9] rfl ta_ ?_; (with_reducible refine (spec_l01Next.calls g s0_0 t196 t197 9 t198 t199 t200 w0 _ ?side1 ?side2 A3.out).mono ?_); (case side1 => exact is81_ HI0.out); (case side2 => repeat (first | (with_reducible first | exact HB.out | apply below_alloc | apply pw_below_drewN | apply below_drew1 | refine below_set ?_ (IsS81.ge HI0.out)) | exact HB.out)); rintro e w36 ⟨rfl, hi, hb, hk⟩; refine ⟨_, rfl, ?_⟩; have n0_ := Aside0.mk (Kd.R_mono (Kd.R_keep (IsS81.apart (show IsS81 w0 _ g s0_0 t196 t197 from is81_ HI0.out) (ra_ HO195.out) (by decide)) hk (fun _ h => h.2)) (fun _ h => h.1)); have n1_ := Aside0.mk (KeepBut.trans (kb0_) hk (.inl rfl)); have n2_ := Aside0.mk (hb); have n3_ := Aside0.mk (hi); clear HO195; clear HK; clear HB; clear HI0; have HO195 := n0_; have HK := n1_; have HB := n2_; have HI0 := n3_; clear n0_ n1_ n2_ n3_; (try clear hb); (try clear hb2); (try clear hk); (try clear hi)) | ((with_reducible refine gate_callee (f := 58) rfl ?_); refine goesL_ (some 13) rfl rfl Tryd.func58 kr_ rfl #[.pointer (some ⟨g, 0, none⟩), .int .i64 9] rfl ta_ ?_; (with_reducible refine (spec_l01Next.calls g s0_0 t199 t200 9 t201 t202 t203 w0 _ ?side1 ?side2 A4.out).mono ?_); (case side1 => exact is81_ HI0.out); (case side2 => repeat (first | (with_reducible first | exact HB.out | apply below_alloc | apply pw_below_drewN | apply below_drew1 | refine below_set ?_ (IsS81.ge HI0.out)) | exact HB.out)); rintro e w37 ⟨rfl, hi, hb, hk⟩; refine ⟨_, rfl, ?_⟩; have n0_ := Aside0.mk (Kd.R_mono (Kd.R_keep (IsS81.apart (show IsS81 w0 _ g s0_0 t199 t200 from is81_ HI0.out) (ra_ HO195.out) (by decide)) hk (fun _ h => h.2)) (fun _ h => h.1)); have n1_ := Aside0.mk (KeepBut.trans (kb0_) hk (.inl rfl)); have n2_ := Aside0.mk (hb); have n3_ := Aside0.mk (hi); clear HO195; clear HK; clear HB; clear HI0; have HO195 := n0_; have HK := n1_; have HB := n2_; have HI0 := n3_; clear n0_ n1_ n2_ n3_; (try clear hb); (try clear hb2); (try clear hk); (try clear hi); obtain ⟨Ao38, co38, eo38⟩ := Kd.R_slice HO195.out; subst eo38) | ((with_reducible refine gate_callee (f := 61) rfl ?_); refine goesL_ (some 15) rfl rfl Tryd.func61 kr_ rfl #[.slice Ao38 t193.length co38, .int .i64 (wrap64 (t198 - 4)), .int .i64 (wrap64 (t201 - 4))] rfl ta_ ?_; (with_reducible refine (spec_l02Move.calls k _ _ t193 (wrap64 (t198 - 4)) (wrap64 (t201 - 4)) t204 _ ?side1 ?side2 A5.out).mono ?_); (case side1 => exact ca_ (Kd.R_reads' HO195.out).2.2); (case side2 => exact (Kd.R_reads' HO195.out).2.1); rintro e w39 ⟨v205, rfl, ho0, hb⟩; refine ⟨_, rfl, ?_⟩; have n0_ := Aside0.mk (Kd.R_elder' (ra_ HO195.out) (Kd.R_base ho0) hb); have n1_ := Aside0.mk (Kd.R_lower (Kd.R_new' ho0 (Kd.R_lt (ra_ HO195.out))) (keep_size (w := w) (g := g) (row := none) (kb0_))); have n2_ := Aside0.mk (IsS81.below (is81_ HI0.out) hb); have n3_ := Aside0.mk (KeepBut.trans (kb0_) (KeepBut.of_below hb g none) (.inl rfl)); have n4_ := Aside0.mk (below_step (by repeat (first | (with_reducible first | exact HB.out | apply below_alloc | apply pw_below_drewN | apply below_drew1 | refine below_set ?_ (IsS81.ge HI0.out)) | exact HB.out)) hb); clear HO195; clear HI0; clear HK; clear HB; have HO195 := n0_; have HO206 := n1_; have HI0 := n2_; have HK := n3_; have HB := n4_; clear n0_ n1_ n2_ n3_ n4_; (try clear hb); (try clear hb2); (try clear hk); (try clear hi); (try clear ho0); obtain ⟨Ao40, co40, eo40⟩ := Kd.R_slice HO206.out; subst eo40) | ((with_reducible refine gate_callee (f := 58) rfl ?_); refine goesL_ (some 19) rfl rfl Tryd.func58 kr_ rfl #[.pointer (some ⟨g, 0, none⟩), .int .i64 (t204.length : Int)] rfl ta_ ?_; (with_reducible refine (spec_l01Next.calls g s0_0 t202 t203 (t204.length : Int) t207 t208 t209 w0 _ ?side1 ?side2 A6.out).mono ?_); (case side1 => exact is81_ HI0.out); (case side2 => repeat (first | (with_reducible first | exact HB.out | apply below_alloc | apply pw_below_drewN | apply below_drew1 | refine below_set ?_ (IsS81.ge HI0.out)) | exact HB.out)); rintro e w41 ⟨rfl, hi, hb, hk⟩; refine ⟨_, rfl, ?_⟩; have n0_ := Aside0.mk (Kd.R_mono (Kd.R_keep (IsS81.apart (show IsS81 w0 _ g s0_0 t202 t203 from is81_ HI0.out) (ra_ HO195.out) (by decide)) hk (fun _ h => h.2)) (fun _ h => h.1)); have n1_ := Aside0.mk (Kd.R_mono (Kd.R_keep (IsS81.apart (show IsS81 w0 _ g s0_0 t202 t203 from is81_ HI0.out) (ra_ HO206.out) (by decide)) hk (fun _ h => h.2)) (fun _ h => h.1)); have n2_ := Aside0.mk (KeepBut.trans (kb0_) hk (.inl rfl)); have n3_ := Aside0.mk (hb); have n4_ := Aside0.mk (hi); clear HO195; clear HO206; clear HK; clear HB; clear HI0; have HO195 := n0_; have HO206 := n1_; have HK := n2_; have HB := n3_; have HI0 := n4_; clear n0_ n1_ n2_ n3_ n4_; (try clear hb); (try clear hb2); (try clear hk); (try clear hi)) | ((with_reducible refine gate_callee (f := 58) rfl ?_); refine goesL_ (some 21) rfl rfl Tryd.func58 kr_ rfl #[.pointer (some ⟨g, 0, none⟩), .int .i64 24] rfl ta_ ?_; (with_reducible refine (spec_l01Next.calls g s0_0 t208 t209 24 t210 t211 t212 w0 _ ?side1 ?side2 A7.out).mono ?_); (case side1 => exact is81_ HI0.out); (case side2 => repeat (first | (with_reducible first | exact HB.out | apply below_alloc | apply pw_below_drewN | apply below_drew1 | refine below_set ?_ (IsS81.ge HI0.out)) | exact HB.out)); rintro e w42 ⟨rfl, hi, hb, hk⟩; refine ⟨_, rfl, ?_⟩; have n0_ := Aside0.mk (Kd.R_mono (Kd.R_keep (IsS81.apart (show IsS81 w0 _ g s0_0 t208 t209 from is81_ HI0.out) (ra_ HO195.out) (by decide)) hk (fun _ h => h.2)) (fun _ h => h.1)); have n1_ := Aside0.mk (Kd.R_mono (Kd.R_keep (IsS81.apart (show IsS81 w0 _ g s0_0 t208 t209 from is81_ HI0.out) (ra_ HO206.out) (by decide)) hk (fun _ h => h.2)) (fun _ h => h.1)); have n2_ := Aside0.mk (KeepBut.trans (kb0_) hk (.inl rfl)); have n3_ := Aside0.mk (hb); have n4_ := Aside0.mk (hi); clear HO195; clear HO206; clear HK; clear HB; clear HI0; have HO195 := n0_; have HO206 := n1_; have HK := n2_; have HB := n3_; have HI0 := n4_; clear n0_ n1_ n2_ n3_ n4_; (try clear hb); (try clear hb2); (try clear hk); (try clear hi); have p224 : 0 ≤ (t207 : Int) := od_; have q224 : t207 < (t204.length : Int) := od_; obtain ⟨ad224, e224, hx224_0, hx224_1⟩ := at_T78 (Kd.R_reads' HO206.out).2.2 t207 p224 q224; cases e224; replace p224 := eq_true p224; replace q224 := eq_true q224) | ((with_reducible refine gate_builtin (b := .append) (xs := #[.tmp 37, .tmp 42]) rfl ?_); at_builtin; refine Kd.R_append k78 w.heap.size rfl (.tmp 37) (.tmp 42) 24 78 (.agg #[(.int .i64 0), (.int .i64 0)]) 16 rfl Tryd.underlying24 info78 rfl (by decide) (by omega) (.slice (some ad224) t204.length co40) t204 (⟨(rd_T78 t204 t207).f0, (rd_T78 t204 t207).f1⟩ : S78) [.int .i64 ((rd_T78 t204 t207).f0), .int .i64 ((rd_T78 t204 t207).f1)] (fun k_ => some k_ ≠ (.slice Ao38 t193.length co38 : Value).ownBlock) (fun _ => False) rfl rfl ?aP (fun _ hk => hk.elim) ?aF ?aO (Below.refl _ _) ?aS ?aL ?_; (case aP => exact k78_mkM _ _ _ (⟨(rd_T78 t204 t207).f0, (rd_T78 t204 t207).f1⟩ : S78)); (case aF => exact (fun k_ hk => Kd.fresh' (Kd.R_lt (ra_ HO195.out)) k_ hk)); (case aO => exact (by (with_reducible repeat (first | apply Kd.R_alloc | apply Kd.R_drewN | apply Kd.R_drew)); exact Kd.R_mono HO206.out (fun _ hk => hk.2))); (case aS => exact (keep_size (w := w) (g := g) (row := none) (kb0_))); (case aL => have := LMc34.out; omega); intro v226 w43 ho hb hg hat; rw [← Ny225.out] at ho; have n0_ := Aside0.mk (IsS81.grown (is81_ HI0.out) hg (IsS81.own_ne HI0.out HO206.out (by decide))); have n1_ := Aside0.mk (Kd.R_after (ok := (fun _ => True)) (ra_ HO195.out) hg hat); have n2_ := Aside0.mk (below_weaken (by repeat (first | (with_reducible first | exact HB.out | apply below_alloc | apply pw_below_drewN | apply below_drew1 | refine below_set ?_ (IsS81.ge HI0.out)) | exact HB.out)) HL.out hb); have n3_ := Aside0.mk (KeepBut.trans (kb0_) (KeepBut.of_grown hg g) (Kd.R_base2 HO206.out)); have n4_ := Aside0.mk (ho); clear HI0; clear HO195; clear HB; clear HK; clear HO206; have HI0 := n0_; have HO195 := n1_; have HB := n2_; have HK := n3_; have HO227 := n4_; clear n0_ n1_ n2_ n3_ n4_; clear ho hb hg hat))
      go_ret
      exact ⟨_, er_, by (with_reducible repeat (first | apply Kd.R_alloc | apply Kd.R_drewN | apply Kd.R_drew)); exact Kd.R_mono HO227.out (fun _ hk => trivial), is81_ HI0.out, by repeat (first | (with_reducible first | exact HB.out | apply below_alloc | apply pw_below_drewN | apply below_drew1 | refine below_set ?_ (IsS81.ge HI0.out)) | exact HB.out), kb0_⟩
     ·rw [if_neg c34] at H
      exact absurd H (by simp)
    ·rw [if_neg c33] at H
     exact absurd H (by simp)
   ·rw [if_neg c32] at H
    exact absurd H (by simp)
  ·rw [if_neg c31] at H
   have c31b0 : (t210 == 1) = false := beq_eq_false_iff_ne.mpr c31
   have c31b1 : (t210 != 1) = true := bne_iff_ne.mpr c31
   by_cases c44 : t210 = 2
   ·rw [if_pos c44] at H
    have c44b0 : (t210 == 2) = true := beq_iff_eq.mpr c44
    have c44b1 : (t210 != 2) = false := bne_eq_false_iff_eq.mpr c44
    clear c44
    simp only [Option.some.injEq, Prod.mk.injEq] at H
    obtain ⟨rfl, rfl, rfl⟩ := H
    go_enter Tryd.func33, Tryd.ntmps33
    go_wp2_with (first | ((with_reducible refine gate_callee (f := 62) rfl ?_); refine goesL_ (some 8) rfl rfl Tryd.func62 kr_ rfl #[.pointer (some ⟨g, 0, none⟩), .int .i64 8] rfl ta_ ?_; (with_reducible refine (spec_l02DrawPoly.calls k g s0_0 s0_1 s0_2 8 t193 t196 t197 w0 _ ?side1 ?side2 A2.out).mono ?_); (case side1 => exact is81_ HI0.out); (case side2 => repeat (first | (with_reducible first | exact HB.out | apply below_alloc | apply pw_below_drewN | apply below_drew1 | refine below_set ?_ (IsS81.ge HI0.out)) | exact HB.out)); rintro e w45 ⟨v194, rfl, ho0, hi, hb, hk⟩; refine ⟨_, rfl, ?_⟩; have n0_ := Aside0.mk (Kd.R_lower ho0 (keep_size (w := w) (g := g) (row := none) (kb0_))); have n1_ := Aside0.mk (KeepBut.trans (kb0_) hk (.inl rfl)); have n2_ := Aside0.mk (hb); have n3_ := Aside0.mk (hi); clear HK; clear HB; clear HI0; have HO195 := n0_; have HK := n1_; have HB := n2_; have HI0 := n3_; clear n0_ n1_ n2_ n3_; (try clear hb); (try clear hb2); (try clear hk); (try clear hi); (try clear ho0)) | ((with_reducible refine gate_callee (f := 58) rfl ?_); refine goesL_ (some 10) rfl rfl Tryd.func58 kr_ rfl #[.pointer (some ⟨g, 0, none⟩), .int .i64 9] rfl ta_ ?_; (with_reducible refine (spec_l01Next.calls g s0_0 t196 t197 9 t198 t199 t200 w0 _ ?side1 ?side2 A3.out).mono ?_); (case side1 => exact is81_ HI0.out); (case side2 => repeat (first | (with_reducible first | exact HB.out | apply below_alloc | apply pw_below_drewN | apply below_drew1 | refine below_set ?_ (IsS81.ge HI0.out)) | exact HB.out)); rintro e w46 ⟨rfl, hi, hb, hk⟩; refine ⟨_, rfl, ?_⟩; have n0_ := Aside0.mk (Kd.R_mono (Kd.R_keep (IsS81.apart (show IsS81 w0 _ g s0_0 t196 t197 from is81_ HI0.out) (ra_ HO195.out) (by decide)) hk (fun _ h => h.2)) (fun _ h => h.1)); have n1_ := Aside0.mk (KeepBut.trans (kb0_) hk (.inl rfl)); have n2_ := Aside0.mk (hb); have n3_ := Aside0.mk (hi); clear HO195; clear HK; clear HB; clear HI0; have HO195 := n0_; have HK := n1_; have HB := n2_; have HI0 := n3_; clear n0_ n1_ n2_ n3_; (try clear hb); (try clear hb2); (try clear hk); (try clear hi)) | ((with_reducible refine gate_callee (f := 58) rfl ?_); refine goesL_ (some 13) rfl rfl Tryd.func58 kr_ rfl #[.pointer (some ⟨g, 0, none⟩), .int .i64 9] rfl ta_ ?_; (with_reducible refine (spec_l01Next.calls g s0_0 t199 t200 9 t201 t202 t203 w0 _ ?side1 ?side2 A4.out).mono ?_); (case side1 => exact is81_ HI0.out); (case side2 => repeat (first | (with_reducible first | exact HB.out | apply below_alloc | apply pw_below_drewN | apply below_drew1 | refine below_set ?_ (IsS81.ge HI0.out)) | exact HB.out)); rintro e w47 ⟨rfl, hi, hb, hk⟩; refine ⟨_, rfl, ?_⟩; have n0_ := Aside0.mk (Kd.R_mono (Kd.R_keep (IsS81.apart (show IsS81 w0 _ g s0_0 t199 t200 from is81_ HI0.out) (ra_ HO195.out) (by decide)) hk (fun _ h => h.2)) (fun _ h => h.1)); have n1_ := Aside0.mk (KeepBut.trans (kb0_) hk (.inl rfl)); have n2_ := Aside0.mk (hb); have n3_ := Aside0.mk (hi); clear HO195; clear HK; clear HB; clear HI0; have HO195 := n0_; have HK := n1_; have HB := n2_; have HI0 := n3_; clear n0_ n1_ n2_ n3_; (try clear hb); (try clear hb2); (try clear hk); (try clear hi); obtain ⟨Ao48, co48, eo48⟩ := Kd.R_slice HO195.out; subst eo48) | ((with_reducible refine gate_callee (f := 61) rfl ?_); refine goesL_ (some 15) rfl rfl Tryd.func61 kr_ rfl #[.slice Ao48 t193.length co48, .int .i64 (wrap64 (t198 - 4)), .int .i64 (wrap64 (t201 - 4))] rfl ta_ ?_; (with_reducible refine (spec_l02Move.calls k _ _ t193 (wrap64 (t198 - 4)) (wrap64 (t201 - 4)) t204 _ ?side1 ?side2 A5.out).mono ?_); (case side1 => exact ca_ (Kd.R_reads' HO195.out).2.2); (case side2 => exact (Kd.R_reads' HO195.out).2.1); rintro e w49 ⟨v205, rfl, ho0, hb⟩; refine ⟨_, rfl, ?_⟩; have n0_ := Aside0.mk (Kd.R_elder' (ra_ HO195.out) (Kd.R_base ho0) hb); have n1_ := Aside0.mk (Kd.R_lower (Kd.R_new' ho0 (Kd.R_lt (ra_ HO195.out))) (keep_size (w := w) (g := g) (row := none) (kb0_))); have n2_ := Aside0.mk (IsS81.below (is81_ HI0.out) hb); have n3_ := Aside0.mk (KeepBut.trans (kb0_) (KeepBut.of_below hb g none) (.inl rfl)); have n4_ := Aside0.mk (below_step (by repeat (first | (with_reducible first | exact HB.out | apply below_alloc | apply pw_below_drewN | apply below_drew1 | refine below_set ?_ (IsS81.ge HI0.out)) | exact HB.out)) hb); clear HO195; clear HI0; clear HK; clear HB; have HO195 := n0_; have HO206 := n1_; have HI0 := n2_; have HK := n3_; have HB := n4_; clear n0_ n1_ n2_ n3_ n4_; (try clear hb); (try clear hb2); (try clear hk); (try clear hi); (try clear ho0); obtain ⟨Ao50, co50, eo50⟩ := Kd.R_slice HO206.out; subst eo50) | ((with_reducible refine gate_callee (f := 58) rfl ?_); refine goesL_ (some 19) rfl rfl Tryd.func58 kr_ rfl #[.pointer (some ⟨g, 0, none⟩), .int .i64 (t204.length : Int)] rfl ta_ ?_; (with_reducible refine (spec_l01Next.calls g s0_0 t202 t203 (t204.length : Int) t207 t208 t209 w0 _ ?side1 ?side2 A6.out).mono ?_); (case side1 => exact is81_ HI0.out); (case side2 => repeat (first | (with_reducible first | exact HB.out | apply below_alloc | apply pw_below_drewN | apply below_drew1 | refine below_set ?_ (IsS81.ge HI0.out)) | exact HB.out)); rintro e w51 ⟨rfl, hi, hb, hk⟩; refine ⟨_, rfl, ?_⟩; have n0_ := Aside0.mk (Kd.R_mono (Kd.R_keep (IsS81.apart (show IsS81 w0 _ g s0_0 t202 t203 from is81_ HI0.out) (ra_ HO195.out) (by decide)) hk (fun _ h => h.2)) (fun _ h => h.1)); have n1_ := Aside0.mk (Kd.R_mono (Kd.R_keep (IsS81.apart (show IsS81 w0 _ g s0_0 t202 t203 from is81_ HI0.out) (ra_ HO206.out) (by decide)) hk (fun _ h => h.2)) (fun _ h => h.1)); have n2_ := Aside0.mk (KeepBut.trans (kb0_) hk (.inl rfl)); have n3_ := Aside0.mk (hb); have n4_ := Aside0.mk (hi); clear HO195; clear HO206; clear HK; clear HB; clear HI0; have HO195 := n0_; have HO206 := n1_; have HK := n2_; have HB := n3_; have HI0 := n4_; clear n0_ n1_ n2_ n3_ n4_; (try clear hb); (try clear hb2); (try clear hk); (try clear hi)) | ((with_reducible refine gate_callee (f := 58) rfl ?_); refine goesL_ (some 21) rfl rfl Tryd.func58 kr_ rfl #[.pointer (some ⟨g, 0, none⟩), .int .i64 24] rfl ta_ ?_; (with_reducible refine (spec_l01Next.calls g s0_0 t208 t209 24 t210 t211 t212 w0 _ ?side1 ?side2 A7.out).mono ?_); (case side1 => exact is81_ HI0.out); (case side2 => repeat (first | (with_reducible first | exact HB.out | apply below_alloc | apply pw_below_drewN | apply below_drew1 | refine below_set ?_ (IsS81.ge HI0.out)) | exact HB.out)); rintro e w52 ⟨rfl, hi, hb, hk⟩; refine ⟨_, rfl, ?_⟩; have n0_ := Aside0.mk (Kd.R_mono (Kd.R_keep (IsS81.apart (show IsS81 w0 _ g s0_0 t208 t209 from is81_ HI0.out) (ra_ HO195.out) (by decide)) hk (fun _ h => h.2)) (fun _ h => h.1)); have n1_ := Aside0.mk (Kd.R_mono (Kd.R_keep (IsS81.apart (show IsS81 w0 _ g s0_0 t208 t209 from is81_ HI0.out) (ra_ HO206.out) (by decide)) hk (fun _ h => h.2)) (fun _ h => h.1)); have n2_ := Aside0.mk (KeepBut.trans (kb0_) hk (.inl rfl)); have n3_ := Aside0.mk (hb); have n4_ := Aside0.mk (hi); clear HO195; clear HO206; clear HK; clear HB; clear HI0; have HO195 := n0_; have HO206 := n1_; have HK := n2_; have HB := n3_; have HI0 := n4_; clear n0_ n1_ n2_ n3_ n4_; (try clear hb); (try clear hb2); (try clear hk); (try clear hi)))
    go_ret
    exact ⟨_, er_, by first | exact Kd.R_nil _ _ _ _ _ | exact Kd.N_nil _ _ _ _ _ | exact Kd.V_nil _ _ _ _ _ | exact Kd.Q_nil _ _ _ _ _ | exact Kd.S_nil _ _ _ _ _, is81_ HI0.out, by repeat (first | (with_reducible first | exact HB.out | apply below_alloc | apply pw_below_drewN | apply below_drew1 | refine below_set ?_ (IsS81.ge HI0.out)) | exact HB.out), kb0_⟩
   ·rw [if_neg c44] at H
    have c44b0 : (t210 == 2) = false := beq_eq_false_iff_ne.mpr c44
    have c44b1 : (t210 != 2) = true := bne_iff_ne.mpr c44
    by_cases c53 : t210 = 3
    ·rw [if_pos c53] at H
     have c53b0 : (t210 == 3) = true := beq_iff_eq.mpr c53
     have c53b1 : (t210 != 3) = false := bne_eq_false_iff_eq.mpr c53
     clear c53
     obtain ⟨y228, hy228⟩ : ∃ y_ : List (S78), y_ = (([] : List (S78))) := ⟨_, rfl⟩
     replace H : (spec_l02Draw.l0 k y228 0 s0_0 t211 t212) = some (r1, r2, r3) := by first | (rw [hy228]; with_reducible exact H) | (have H2_ := (Option.bind_some _ _).symm.trans H; rw [hy228]; with_reducible exact H2_) | (have H2_ := (Option.bind_some _ _).symm.trans H; with_reducible exact H2_) | with_reducible exact H | (rw [hy228]; exact H) | exact H
     have Ny228 := Aside0.mk hy228
     clear hy228
     have H' := Aside0.mk H
     clear H
     go_enter Tryd.func33, Tryd.ntmps33
     go_wp2_with (first | ((with_reducible refine gate_callee (f := 62) rfl ?_); refine goesL_ (some 8) rfl rfl Tryd.func62 kr_ rfl #[.pointer (some ⟨g, 0, none⟩), .int .i64 8] rfl ta_ ?_; (with_reducible refine (spec_l02DrawPoly.calls k g s0_0 s0_1 s0_2 8 t193 t196 t197 w0 _ ?side1 ?side2 A2.out).mono ?_); (case side1 => exact is81_ HI0.out); (case side2 => repeat (first | (with_reducible first | exact HB.out | apply below_alloc | apply pw_below_drewN | apply below_drew1 | refine below_set ?_ (IsS81.ge HI0.out)) | exact HB.out)); rintro e w54 ⟨v194, rfl, ho0, hi, hb, hk⟩; refine ⟨_, rfl, ?_⟩; have n0_ := Aside0.mk (Kd.R_lower ho0 (keep_size (w := w) (g := g) (row := none) (kb0_))); have n1_ := Aside0.mk (KeepBut.trans (kb0_) hk (.inl rfl)); have n2_ := Aside0.mk (hb); have n3_ := Aside0.mk (hi); clear HK; clear HB; clear HI0; have HO195 := n0_; have HK := n1_; have HB := n2_; have HI0 := n3_; clear n0_ n1_ n2_ n3_; (try clear hb); (try clear hb2); (try clear hk); (try clear hi); (try clear ho0)) | ((with_reducible refine gate_callee (f := 58) rfl ?_); refine goesL_ (some 10) rfl rfl Tryd.func58 kr_ rfl #[.pointer (some ⟨g, 0, none⟩), .int .i64 9] rfl ta_ ?_; (with_reducible refine (spec_l01Next.calls g s0_0 t196 t197 9 t198 t199 t200 w0 _ ?side1 ?side2 A3.out).mono ?_); (case side1 => exact is81_ HI0.out); (case side2 => repeat (first | (with_reducible first | exact HB.out | apply below_alloc | apply pw_below_drewN | apply below_drew1 | refine below_set ?_ (IsS81.ge HI0.out)) | exact HB.out)); rintro e w55 ⟨rfl, hi, hb, hk⟩; refine ⟨_, rfl, ?_⟩; have n0_ := Aside0.mk (Kd.R_mono (Kd.R_keep (IsS81.apart (show IsS81 w0 _ g s0_0 t196 t197 from is81_ HI0.out) (ra_ HO195.out) (by decide)) hk (fun _ h => h.2)) (fun _ h => h.1)); have n1_ := Aside0.mk (KeepBut.trans (kb0_) hk (.inl rfl)); have n2_ := Aside0.mk (hb); have n3_ := Aside0.mk (hi); clear HO195; clear HK; clear HB; clear HI0; have HO195 := n0_; have HK := n1_; have HB := n2_; have HI0 := n3_; clear n0_ n1_ n2_ n3_; (try clear hb); (try clear hb2); (try clear hk); (try clear hi)) | ((with_reducible refine gate_callee (f := 58) rfl ?_); refine goesL_ (some 13) rfl rfl Tryd.func58 kr_ rfl #[.pointer (some ⟨g, 0, none⟩), .int .i64 9] rfl ta_ ?_; (with_reducible refine (spec_l01Next.calls g s0_0 t199 t200 9 t201 t202 t203 w0 _ ?side1 ?side2 A4.out).mono ?_); (case side1 => exact is81_ HI0.out); (case side2 => repeat (first | (with_reducible first | exact HB.out | apply below_alloc | apply pw_below_drewN | apply below_drew1 | refine below_set ?_ (IsS81.ge HI0.out)) | exact HB.out)); rintro e w56 ⟨rfl, hi, hb, hk⟩; refine ⟨_, rfl, ?_⟩; have n0_ := Aside0.mk (Kd.R_mono (Kd.R_keep (IsS81.apart (show IsS81 w0 _ g s0_0 t199 t200 from is81_ HI0.out) (ra_ HO195.out) (by decide)) hk (fun _ h => h.2)) (fun _ h => h.1)); have n1_ := Aside0.mk (KeepBut.trans (kb0_) hk (.inl rfl)); have n2_ := Aside0.mk (hb); have n3_ := Aside0.mk (hi); clear HO195; clear HK; clear HB; clear HI0; have HO195 := n0_; have HK := n1_; have HB := n2_; have HI0 := n3_; clear n0_ n1_ n2_ n3_; (try clear hb); (try clear hb2); (try clear hk); (try clear hi); obtain ⟨Ao57, co57, eo57⟩ := Kd.R_slice HO195.out; subst eo57) | ((with_reducible refine gate_callee (f := 61) rfl ?_); refine goesL_ (some 15) rfl rfl Tryd.func61 kr_ rfl #[.slice Ao57 t193.length co57, .int .i64 (wrap64 (t198 - 4)), .int .i64 (wrap64 (t201 - 4))] rfl ta_ ?_; (with_reducible refine (spec_l02Move.calls k _ _ t193 (wrap64 (t198 - 4)) (wrap64 (t201 - 4)) t204 _ ?side1 ?side2 A5.out).mono ?_); (case side1 => exact ca_ (Kd.R_reads' HO195.out).2.2); (case side2 => exact (Kd.R_reads' HO195.out).2.1); rintro e w58 ⟨v205, rfl, ho0, hb⟩; refine ⟨_, rfl, ?_⟩; have n0_ := Aside0.mk (Kd.R_elder' (ra_ HO195.out) (Kd.R_base ho0) hb); have n1_ := Aside0.mk (Kd.R_lower (Kd.R_new' ho0 (Kd.R_lt (ra_ HO195.out))) (keep_size (w := w) (g := g) (row := none) (kb0_))); have n2_ := Aside0.mk (IsS81.below (is81_ HI0.out) hb); have n3_ := Aside0.mk (KeepBut.trans (kb0_) (KeepBut.of_below hb g none) (.inl rfl)); have n4_ := Aside0.mk (below_step (by repeat (first | (with_reducible first | exact HB.out | apply below_alloc | apply pw_below_drewN | apply below_drew1 | refine below_set ?_ (IsS81.ge HI0.out)) | exact HB.out)) hb); clear HO195; clear HI0; clear HK; clear HB; have HO195 := n0_; have HO206 := n1_; have HI0 := n2_; have HK := n3_; have HB := n4_; clear n0_ n1_ n2_ n3_ n4_; (try clear hb); (try clear hb2); (try clear hk); (try clear hi); (try clear ho0); obtain ⟨Ao59, co59, eo59⟩ := Kd.R_slice HO206.out; subst eo59) | ((with_reducible refine gate_callee (f := 58) rfl ?_); refine goesL_ (some 19) rfl rfl Tryd.func58 kr_ rfl #[.pointer (some ⟨g, 0, none⟩), .int .i64 (t204.length : Int)] rfl ta_ ?_; (with_reducible refine (spec_l01Next.calls g s0_0 t202 t203 (t204.length : Int) t207 t208 t209 w0 _ ?side1 ?side2 A6.out).mono ?_); (case side1 => exact is81_ HI0.out); (case side2 => repeat (first | (with_reducible first | exact HB.out | apply below_alloc | apply pw_below_drewN | apply below_drew1 | refine below_set ?_ (IsS81.ge HI0.out)) | exact HB.out)); rintro e w60 ⟨rfl, hi, hb, hk⟩; refine ⟨_, rfl, ?_⟩; have n0_ := Aside0.mk (Kd.R_mono (Kd.R_keep (IsS81.apart (show IsS81 w0 _ g s0_0 t202 t203 from is81_ HI0.out) (ra_ HO195.out) (by decide)) hk (fun _ h => h.2)) (fun _ h => h.1)); have n1_ := Aside0.mk (Kd.R_mono (Kd.R_keep (IsS81.apart (show IsS81 w0 _ g s0_0 t202 t203 from is81_ HI0.out) (ra_ HO206.out) (by decide)) hk (fun _ h => h.2)) (fun _ h => h.1)); have n2_ := Aside0.mk (KeepBut.trans (kb0_) hk (.inl rfl)); have n3_ := Aside0.mk (hb); have n4_ := Aside0.mk (hi); clear HO195; clear HO206; clear HK; clear HB; clear HI0; have HO195 := n0_; have HO206 := n1_; have HK := n2_; have HB := n3_; have HI0 := n4_; clear n0_ n1_ n2_ n3_ n4_; (try clear hb); (try clear hb2); (try clear hk); (try clear hi)) | ((with_reducible refine gate_callee (f := 58) rfl ?_); refine goesL_ (some 21) rfl rfl Tryd.func58 kr_ rfl #[.pointer (some ⟨g, 0, none⟩), .int .i64 24] rfl ta_ ?_; (with_reducible refine (spec_l01Next.calls g s0_0 t208 t209 24 t210 t211 t212 w0 _ ?side1 ?side2 A7.out).mono ?_); (case side1 => exact is81_ HI0.out); (case side2 => repeat (first | (with_reducible first | exact HB.out | apply below_alloc | apply pw_below_drewN | apply below_drew1 | refine below_set ?_ (IsS81.ge HI0.out)) | exact HB.out)); rintro e w61 ⟨rfl, hi, hb, hk⟩; refine ⟨_, rfl, ?_⟩; have n0_ := Aside0.mk (Kd.R_mono (Kd.R_keep (IsS81.apart (show IsS81 w0 _ g s0_0 t208 t209 from is81_ HI0.out) (ra_ HO195.out) (by decide)) hk (fun _ h => h.2)) (fun _ h => h.1)); have n1_ := Aside0.mk (Kd.R_mono (Kd.R_keep (IsS81.apart (show IsS81 w0 _ g s0_0 t208 t209 from is81_ HI0.out) (ra_ HO206.out) (by decide)) hk (fun _ h => h.2)) (fun _ h => h.1)); have n2_ := Aside0.mk (KeepBut.trans (kb0_) hk (.inl rfl)); have n3_ := Aside0.mk (hb); have n4_ := Aside0.mk (hi); clear HO195; clear HO206; clear HK; clear HB; clear HI0; have HO195 := n0_; have HO206 := n1_; have HK := n2_; have HB := n3_; have HI0 := n4_; clear n0_ n1_ n2_ n3_ n4_; (try clear hb); (try clear hb2); (try clear hk); (try clear hi)) | ((with_reducible refine gate_dst (N := 48) rfl ?_); refine Kd.R_lit k78 _ 78 ?hg (N := 48) ?hd (xs := ([] : List (S78))) (inner := []) (ok := fun _ => True) (okp := fun _ => True) ?hr ?hp (fun _ hk => hk) trivial (Below.refl _ _) (Nat.le_refl _) (by simp) ?_; (case hd => rfl); (case hg => rfl); (case hr => first | (go_simp; done) | (go_simp; rfl)); (case hp => exact (Reps.none _ _)); intro v229 w62 ho63 hb hg_ hnew_; clear hg_ hnew_; (first | rw [← Ny228.out] at ho63 | (simp only [Int.reduceToNat] at ho63; rw [← Ny228.out] at ho63)); have n0_ := Aside0.mk (Kd.R_elder' (ra_ HO195.out) (Kd.R_base ho63) hb); have n1_ := Aside0.mk (Kd.R_elder' (ra_ HO206.out) (Kd.R_base ho63) hb); have n2_ := Aside0.mk (Kd.R_lower (Kd.R_new' (Kd.R_new' ho63 (Kd.R_lt (ra_ HO195.out))) (Kd.R_lt (ra_ HO206.out))) (keep_size (w := w) (g := g) (row := none) (kb0_))); have n3_ := Aside0.mk (IsS81.below (is81_ HI0.out) hb); have n4_ := Aside0.mk (KeepBut.trans (kb0_) (KeepBut.of_below hb g none) (.inl rfl)); have n5_ := Aside0.mk (below_step (by repeat (first | (with_reducible first | exact HB.out | apply below_alloc | apply pw_below_drewN | apply below_drew1 | refine below_set ?_ (IsS81.ge HI0.out)) | exact HB.out)) hb); clear HO195; clear HO206; clear HI0; clear HK; clear HB; have HO195 := n0_; have HO206 := n1_; have HO230 := n2_; have HI0 := n3_; have HK := n4_; have HB := n5_; clear n0_ n1_ n2_ n3_ n4_ n5_; clear hb ho63))
     go_loopg [5, 6] k (fun kq v5 v6 w' => ∃ (x5_1 : List (S78)) (x6_1 : Int) (x1001_1 : Int) (x1002_1 : Int), v6 = .int .i64 x6_1 ∧ Aside0 (spec_l02Draw.l0 kq x5_1 x6_1 s0_0 x1001_1 x1002_1 = some (r1, r2, r3)) ∧ Aside0 (kq ≤ k) ∧ Aside0 (Kd.R k78 78 w' w.heap.size (fun _ => True) v5 x5_1) ∧ Aside0 (IsS81 w0 w' g s0_0 x1001_1 x1002_1) ∧ Aside0 (KeepBut w w' g none) ∧ Aside0 (Below w0.heap.size w0 w'))
     case atStart => exact ⟨(y228), (0), (t211), (t212), rs_, H', ⟨Nat.le_refl _⟩, ⟨by (with_reducible repeat (first | apply Kd.R_alloc | apply Kd.R_drewN | apply Kd.R_drew)); exact Kd.R_mono HO230.out (fun _ hk => trivial)⟩, ⟨is81_ HI0.out⟩, ⟨kb0_⟩, ⟨by repeat (first | (with_reducible first | exact HB.out | apply below_alloc | apply pw_below_drewN | apply below_drew1 | refine below_set ?_ (IsS81.ge HI0.out)) | exact HB.out)⟩⟩
     case round =>
      clear H'
      try clear c1
      try clear p1
      try clear q1
      try clear hx1
      try clear hf1
      try clear c2
      try clear p2
      try clear q2
      try clear hx2
      try clear hf2
      try clear c3
      try clear c4
      try clear c5
      try clear c6
      try clear p6
      try clear c8
      try clear c8b0
      try clear c8b1
      try clear c10
      try clear c10b0
      try clear c11
      try clear c11b0
      try clear c12
      try clear c12b0
      try clear c13
      try clear c13b0
      try clear c14
      try clear p14
      try clear q14
      try clear hx14
      try clear hf14
      try clear p21
      try clear q21
      try clear hx21
      try clear p22
      try clear q22
      try clear hx22
      try clear c28
      try clear hx28
      try clear hf28
      try clear c31
      try clear c31b0
      try clear c31b1
      try clear c32
      try clear c32b0
      try clear c33
      try clear c33b0
      try clear c34
      try clear c44
      try clear c44b0
      try clear c44b1
      try clear c53
      try clear c53b0
      try clear c53b1
      try clear c58
      try clear c61
      try clear c62
      try clear c63
      try clear hx14_0
      try clear hx14_1
      try clear hx219_0
      try clear hx224_0
      try clear hx224_1
      try clear hx28_0
      try clear p14
      try clear p219
      try clear p224
      try clear q14
      try clear q219
      try clear q224
      obtain ⟨x5_1, x6_1, x1001_1, x1002_1, rfl, HA, HK1, HO_5, HI0, HK, HB⟩ := hrel
      cases gk with
      | zero => exact absurd HA.out (by simp [spec_l02Draw.l0])
      | succ k1 =>
       have H := HA.out
       clear HA
       simp only [spec_l02Draw.l0] at H
       replace H := Option.bind_eq_some_iff.mp H
       obtain ⟨⟨t231, t232, t233⟩, A640, H⟩ := H
       replace H : (if x6_1 < (wrap64 (40 + t231)) then (if x5_1.length < 8796093022208 then (spec_l02Draw.l0 k1 (x5_1 ++ [(⟨x6_1, 0⟩ : S78)]) (wrap64 (x6_1 + 1)) s0_0 t232 t233) else (none)) else (some (x5_1, t232, t233))) = some (r1, r2, r3) := H
       have A64 := Aside0.mk A640
       clear A640
       by_cases c65 : x6_1 < (wrap64 (40 + t231))
       ·rw [if_pos c65] at H
        have c65b0 : decide (x6_1 < (wrap64 (40 + t231))) = true := decide_eq_true c65
        clear c65
        by_cases c66 : x5_1.length < 8796093022208
        ·rw [if_pos c66] at H
         have LMc66 := Aside0.mk c66
         clear c66
         obtain ⟨y234, hy234⟩ : ∃ y_ : List (S78), y_ = (x5_1 ++ [(⟨x6_1, 0⟩ : S78)]) := ⟨_, rfl⟩
         replace H : (spec_l02Draw.l0 k1 y234 (wrap64 (x6_1 + 1)) s0_0 t232 t233) = some (r1, r2, r3) := by first | (rw [hy234]; with_reducible exact H) | (have H2_ := (Option.bind_some _ _).symm.trans H; rw [hy234]; with_reducible exact H2_) | (have H2_ := (Option.bind_some _ _).symm.trans H; with_reducible exact H2_) | with_reducible exact H | (rw [hy234]; exact H) | exact H
         have Ny234 := Aside0.mk hy234
         clear hy234
         have H' := Aside0.mk H
         clear H
         go_wp2_with (first | ((with_reducible refine gate_callee (f := 58) rfl ?_); refine goesL_ (some 51) rfl rfl Tryd.func58 kr_ rfl #[.pointer (some ⟨g, 0, none⟩), .int .i64 2] rfl ta_ ?_; (with_reducible refine (spec_l01Next.calls g s0_0 x1001_1 x1002_1 2 t231 t232 t233 w0 _ ?side1 ?side2 A64.out).mono ?_); (case side1 => exact is81_ HI0.out); (case side2 => repeat (first | (with_reducible first | exact HB.out | apply below_alloc | apply pw_below_drewN | apply below_drew1 | refine below_set ?_ (IsS81.ge HI0.out)) | exact HB.out)); rintro e w67 ⟨rfl, hi, hb, hk⟩; refine ⟨_, rfl, ?_⟩; have n0_ := Aside0.mk (Kd.R_mono (Kd.R_keep (IsS81.apart (show IsS81 w0 _ g s0_0 x1001_1 x1002_1 from is81_ HI0.out) (ra_ HO_5.out) (by decide)) hk (fun _ h => h.2)) (fun _ h => h.1)); have n1_ := Aside0.mk (KeepBut.trans (kb0_) hk (.inl rfl)); have n2_ := Aside0.mk (hb); have n3_ := Aside0.mk (hi); clear HO_5; clear HK; clear HB; clear HI0; have HO_5 := n0_; have HK := n1_; have HB := n2_; have HI0 := n3_; clear n0_ n1_ n2_ n3_; (try clear hb); (try clear hb2); (try clear hk); (try clear hi)) | ((with_reducible refine gate_builtin (b := .append) (xs := #[.tmp 56, .tmp 59]) rfl ?_); at_builtin; refine Kd.R_append k78 w.heap.size rfl (.tmp 56) (.tmp 59) 24 78 (.agg #[(.int .i64 0), (.int .i64 0)]) 16 rfl Tryd.underlying24 info78 rfl (by decide) (by omega) u5 x5_1 (⟨x6_1, 0⟩ : S78) [.int .i64 x6_1, .int .i64 0] (fun _ => True) (fun _ => False) rfl rfl ?aP (fun _ hk => hk.elim) ?aF ?aO (Below.refl _ _) ?aS ?aL ?_; (case aP => exact k78_mkM _ _ _ (⟨x6_1, 0⟩ : S78)); (case aF => exact (fun _ _ => trivial)); (case aO => exact (ra_ HO_5.out)); (case aS => exact (keep_size (w := w) (g := g) (row := none) (kb0_))); (case aL => have := LMc66.out; omega); intro v235 w68 ho hb hg hat; rw [← Ny234.out] at ho; have n0_ := Aside0.mk (IsS81.grown (is81_ HI0.out) hg (IsS81.own_ne HI0.out HO_5.out (by decide))); have n1_ := Aside0.mk (below_weaken (by repeat (first | (with_reducible first | exact HB.out | apply below_alloc | apply pw_below_drewN | apply below_drew1 | refine below_set ?_ (IsS81.ge HI0.out)) | exact HB.out)) HL.out hb); have n2_ := Aside0.mk (KeepBut.trans (kb0_) (KeepBut.of_grown hg g) (Kd.R_base2 HO_5.out)); have n3_ := Aside0.mk (ho); clear HI0; clear HB; clear HK; clear HO_5; have HI0 := n0_; have HB := n1_; have HK := n2_; have HO236 := n3_; clear n0_ n1_ n2_ n3_; clear ho hb hg hat))
         go_roundg k1
         case measure => have := HK1.out; omega
         case rel => exact ⟨(y234), (wrap64 (x6_1 + 1)), (t232), (t233), rs_, H', ⟨by have := HK1.out; omega⟩, ⟨ra_ HO236.out⟩, ⟨is81_ HI0.out⟩, ⟨kb0_⟩, ⟨by repeat (first | (with_reducible first | exact HB.out | apply below_alloc | apply pw_below_drewN | apply below_drew1 | refine below_set ?_ (IsS81.ge HI0.out)) | exact HB.out)⟩⟩
        ·rw [if_neg c66] at H
         exact absurd H (by simp)
       ·rw [if_neg c65] at H
        have c65b0 : decide (x6_1 < (wrap64 (40 + t231))) = false := decide_eq_false c65
        clear c65
        simp only [Option.some.injEq, Prod.mk.injEq] at H
        obtain ⟨rfl, rfl, rfl⟩ := H
        go_wp2_with (first | ((with_reducible refine gate_callee (f := 58) rfl ?_); refine goesL_ (some 51) rfl rfl Tryd.func58 kr_ rfl #[.pointer (some ⟨g, 0, none⟩), .int .i64 2] rfl ta_ ?_; (with_reducible refine (spec_l01Next.calls g s0_0 x1001_1 x1002_1 2 t231 t232 t233 w0 _ ?side1 ?side2 A64.out).mono ?_); (case side1 => exact is81_ HI0.out); (case side2 => repeat (first | (with_reducible first | exact HB.out | apply below_alloc | apply pw_below_drewN | apply below_drew1 | refine below_set ?_ (IsS81.ge HI0.out)) | exact HB.out)); rintro e w69 ⟨rfl, hi, hb, hk⟩; refine ⟨_, rfl, ?_⟩; have n0_ := Aside0.mk (Kd.R_mono (Kd.R_keep (IsS81.apart (show IsS81 w0 _ g s0_0 x1001_1 x1002_1 from is81_ HI0.out) (ra_ HO_5.out) (by decide)) hk (fun _ h => h.2)) (fun _ h => h.1)); have n1_ := Aside0.mk (KeepBut.trans (kb0_) hk (.inl rfl)); have n2_ := Aside0.mk (hb); have n3_ := Aside0.mk (hi); clear HO_5; clear HK; clear HB; clear HI0; have HO_5 := n0_; have HK := n1_; have HB := n2_; have HI0 := n3_; clear n0_ n1_ n2_ n3_; (try clear hb); (try clear hb2); (try clear hk); (try clear hi)))
        go_ret
        exact ⟨_, er_, ra_ HO_5.out, is81_ HI0.out, by repeat (first | (with_reducible first | exact HB.out | apply below_alloc | apply pw_below_drewN | apply below_drew1 | refine below_set ?_ (IsS81.ge HI0.out)) | exact HB.out), kb0_⟩
    ·rw [if_neg c53] at H
     have c53b0 : (t210 == 3) = false := beq_eq_false_iff_ne.mpr c53
     have c53b1 : (t210 != 3) = true := bne_iff_ne.mpr c53
     by_cases c70 : t210 = 4
     ·rw [if_pos c70] at H
      have c70b0 : (t210 == 4) = true := beq_iff_eq.mpr c70
      have c70b1 : (t210 != 4) = false := bne_eq_false_iff_eq.mpr c70
      clear c70
      by_cases c71 : 0 < (t204.length : Int)
      ·rw [if_pos c71] at H
       have c71b0 : decide (0 < (t204.length : Int)) = true := decide_eq_true c71
       have c71b1 : decide (0 < t204.length) = true := decide_eq_true (by omega)
       clear c71
       obtain ⟨ji72, hji72⟩ : ∃ j_ : Int, (wrap64 ((t204.length : Int) - 1)) = j_ := ⟨_, rfl⟩
       replace H : (if 0 ≤ (ji72) then (if (ji72) < (t204.length : Int) then (if t204.length < 8796093022208 then (some ((t204 ++ [(⟨wrap64 (((rd_T78 t204 0).f0) + 3), wrap64 (((rd_T78 t204 (ji72)).f1) + 2)⟩ : S78)]), t211, t212)) else (none)) else (none)) else (none)) = some (r1, r2, r3) := by first | (rw [hji72] at H; exact H) | (simp only [hji72] at H ⊢; exact H)
       (try rw [hji72] at A2)
       (try rw [hji72] at A3)
       (try rw [hji72] at A4)
       (try rw [hji72] at A5)
       (try rw [hji72] at A6)
       (try rw [hji72] at A7)
       have hji72w : (IntKind.i64.wrap ((t204.length : Int) - 1)) = ji72 := (i64_w _).trans hji72
       by_cases c73 : 0 ≤ (ji72)
       ·rw [if_pos c73] at H
        have c73b0 : decide (0 ≤ (ji72)) = true := decide_eq_true c73
        clear c73
        by_cases c74 : (ji72) < (t204.length : Int)
        ·rw [if_pos c74] at H
         have c74b0 : decide ((ji72) < (t204.length : Int)) = true := decide_eq_true c74
         clear c74
         by_cases c75 : t204.length < 8796093022208
         ·rw [if_pos c75] at H
          have LMc75 := Aside0.mk c75
          clear c75
          obtain ⟨y239, hy239⟩ : ∃ y_ : List (S78), y_ = (t204 ++ [(⟨wrap64 (((rd_T78 t204 0).f0) + 3), wrap64 (((rd_T78 t204 (ji72)).f1) + 2)⟩ : S78)]) := ⟨_, rfl⟩
          replace H : (some (y239, t211, t212)) = some (r1, r2, r3) := by first | (rw [hy239]; with_reducible exact H) | (have H2_ := (Option.bind_some _ _).symm.trans H; rw [hy239]; with_reducible exact H2_) | (have H2_ := (Option.bind_some _ _).symm.trans H; with_reducible exact H2_) | with_reducible exact H | (rw [hy239]; exact H) | exact H
          have Ny239 := Aside0.mk hy239
          clear hy239
          simp only [Option.some.injEq, Prod.mk.injEq] at H
          obtain ⟨rfl, rfl, rfl⟩ := H
          go_enter Tryd.func33, Tryd.ntmps33
          try go_wp2_with (first | ((with_reducible refine gate_callee (f := 62) rfl ?_); refine goesL_ (some 8) rfl rfl Tryd.func62 kr_ rfl #[.pointer (some ⟨g, 0, none⟩), .int .i64 8] rfl ta_ ?_; (with_reducible refine (spec_l02DrawPoly.calls k g s0_0 s0_1 s0_2 8 t193 t196 t197 w0 _ ?side1 ?side2 A2.out).mono ?_); (case side1 => exact is81_ HI0.out); (case side2 => repeat (first | (with_reducible first | exact HB.out | apply below_alloc | apply pw_below_drewN | apply below_drew1 | refine below_set ?_ (IsS81.ge HI0.out)) | exact HB.out)); rintro e w76 ⟨v194, rfl, ho0, hi, hb, hk⟩; refine ⟨_, rfl, ?_⟩; have n0_ := Aside0.mk (Kd.R_lower ho0 (keep_size (w := w) (g := g) (row := none) (kb0_))); have n1_ := Aside0.mk (KeepBut.trans (kb0_) hk (.inl rfl)); have n2_ := Aside0.mk (hb); have n3_ := Aside0.mk (hi); clear HK; clear HB; clear HI0; have HO195 := n0_; have HK := n1_; have HB := n2_; have HI0 := n3_; clear n0_ n1_ n2_ n3_; (try clear hb); (try clear hb2); (try clear hk); (try clear hi); (try clear ho0)) | ((with_reducible refine gate_callee (f := 58) rfl ?_); refine goesL_ (some 10) rfl rfl Tryd.func58 kr_ rfl #[.pointer (some ⟨g, 0, none⟩), .int .i64 9] rfl ta_ ?_; (with_reducible refine (spec_l01Next.calls g s0_0 t196 t197 9 t198 t199 t200 w0 _ ?side1 ?side2 A3.out).mono ?_); (case side1 => exact is81_ HI0.out); (case side2 => repeat (first | (with_reducible first | exact HB.out | apply below_alloc | apply pw_below_drewN | apply below_drew1 | refine below_set ?_ (IsS81.ge HI0.out)) | exact HB.out)); rintro e w77 ⟨rfl, hi, hb, hk⟩; refine ⟨_, rfl, ?_⟩; have n0_ := Aside0.mk (Kd.R_mono (Kd.R_keep (IsS81.apart (show IsS81 w0 _ g s0_0 t196 t197 from is81_ HI0.out) (ra_ HO195.out) (by decide)) hk (fun _ h => h.2)) (fun _ h => h.1)); have n1_ := Aside0.mk (KeepBut.trans (kb0_) hk (.inl rfl)); have n2_ := Aside0.mk (hb); have n3_ := Aside0.mk (hi); clear HO195; clear HK; clear HB; clear HI0; have HO195 := n0_; have HK := n1_; have HB := n2_; have HI0 := n3_; clear n0_ n1_ n2_ n3_; (try clear hb); (try clear hb2); (try clear hk); (try clear hi)) | ((with_reducible refine gate_callee (f := 58) rfl ?_); refine goesL_ (some 13) rfl rfl Tryd.func58 kr_ rfl #[.pointer (some ⟨g, 0, none⟩), .int .i64 9] rfl ta_ ?_; (with_reducible refine (spec_l01Next.calls g s0_0 t199 t200 9 t201 t202 t203 w0 _ ?side1 ?side2 A4.out).mono ?_); (case side1 => exact is81_ HI0.out); (case side2 => repeat (first | (with_reducible first | exact HB.out | apply below_alloc | apply pw_below_drewN | apply below_drew1 | refine below_set ?_ (IsS81.ge HI0.out)) | exact HB.out)); rintro e w78 ⟨rfl, hi, hb, hk⟩; refine ⟨_, rfl, ?_⟩; have n0_ := Aside0.mk (Kd.R_mono (Kd.R_keep (IsS81.apart (show IsS81 w0 _ g s0_0 t199 t200 from is81_ HI0.out) (ra_ HO195.out) (by decide)) hk (fun _ h => h.2)) (fun _ h => h.1)); have n1_ := Aside0.mk (KeepBut.trans (kb0_) hk (.inl rfl)); have n2_ := Aside0.mk (hb); have n3_ := Aside0.mk (hi); clear HO195; clear HK; clear HB; clear HI0; have HO195 := n0_; have HK := n1_; have HB := n2_; have HI0 := n3_; clear n0_ n1_ n2_ n3_; (try clear hb); (try clear hb2); (try clear hk); (try clear hi); obtain ⟨Ao79, co79, eo79⟩ := Kd.R_slice HO195.out; subst eo79) | ((with_reducible refine gate_callee (f := 61) rfl ?_); refine goesL_ (some 15) rfl rfl Tryd.func61 kr_ rfl #[.slice Ao79 t193.length co79, .int .i64 (wrap64 (t198 - 4)), .int .i64 (wrap64 (t201 - 4))] rfl ta_ ?_; (with_reducible refine (spec_l02Move.calls k _ _ t193 (wrap64 (t198 - 4)) (wrap64 (t201 - 4)) t204 _ ?side1 ?side2 A5.out).mono ?_); (case side1 => exact ca_ (Kd.R_reads' HO195.out).2.2); (case side2 => exact (Kd.R_reads' HO195.out).2.1); rintro e w80 ⟨v205, rfl, ho0, hb⟩; refine ⟨_, rfl, ?_⟩; have n0_ := Aside0.mk (Kd.R_elder' (ra_ HO195.out) (Kd.R_base ho0) hb); have n1_ := Aside0.mk (Kd.R_lower (Kd.R_new' ho0 (Kd.R_lt (ra_ HO195.out))) (keep_size (w := w) (g := g) (row := none) (kb0_))); have n2_ := Aside0.mk (IsS81.below (is81_ HI0.out) hb); have n3_ := Aside0.mk (KeepBut.trans (kb0_) (KeepBut.of_below hb g none) (.inl rfl)); have n4_ := Aside0.mk (below_step (by repeat (first | (with_reducible first | exact HB.out | apply below_alloc | apply pw_below_drewN | apply below_drew1 | refine below_set ?_ (IsS81.ge HI0.out)) | exact HB.out)) hb); clear HO195; clear HI0; clear HK; clear HB; have HO195 := n0_; have HO206 := n1_; have HI0 := n2_; have HK := n3_; have HB := n4_; clear n0_ n1_ n2_ n3_ n4_; (try clear hb); (try clear hb2); (try clear hk); (try clear hi); (try clear ho0); obtain ⟨Ao81, co81, eo81⟩ := Kd.R_slice HO206.out; subst eo81) | ((with_reducible refine gate_callee (f := 58) rfl ?_); refine goesL_ (some 19) rfl rfl Tryd.func58 kr_ rfl #[.pointer (some ⟨g, 0, none⟩), .int .i64 (t204.length : Int)] rfl ta_ ?_; (with_reducible refine (spec_l01Next.calls g s0_0 t202 t203 (t204.length : Int) t207 t208 t209 w0 _ ?side1 ?side2 A6.out).mono ?_); (case side1 => exact is81_ HI0.out); (case side2 => repeat (first | (with_reducible first | exact HB.out | apply below_alloc | apply pw_below_drewN | apply below_drew1 | refine below_set ?_ (IsS81.ge HI0.out)) | exact HB.out)); rintro e w82 ⟨rfl, hi, hb, hk⟩; refine ⟨_, rfl, ?_⟩; have n0_ := Aside0.mk (Kd.R_mono (Kd.R_keep (IsS81.apart (show IsS81 w0 _ g s0_0 t202 t203 from is81_ HI0.out) (ra_ HO195.out) (by decide)) hk (fun _ h => h.2)) (fun _ h => h.1)); have n1_ := Aside0.mk (Kd.R_mono (Kd.R_keep (IsS81.apart (show IsS81 w0 _ g s0_0 t202 t203 from is81_ HI0.out) (ra_ HO206.out) (by decide)) hk (fun _ h => h.2)) (fun _ h => h.1)); have n2_ := Aside0.mk (KeepBut.trans (kb0_) hk (.inl rfl)); have n3_ := Aside0.mk (hb); have n4_ := Aside0.mk (hi); clear HO195; clear HO206; clear HK; clear HB; clear HI0; have HO195 := n0_; have HO206 := n1_; have HK := n2_; have HB := n3_; have HI0 := n4_; clear n0_ n1_ n2_ n3_ n4_; (try clear hb); (try clear hb2); (try clear hk); (try clear hi)) | ((with_reducible refine gate_callee (f := 58) rfl ?_); refine goesL_ (some 21) rfl rfl Tryd.func58 kr_ rfl #[.pointer (some ⟨g, 0, none⟩), .int .i64 24] rfl ta_ ?_; (with_reducible refine (spec_l01Next.calls g s0_0 t208 t209 24 t210 t211 t212 w0 _ ?side1 ?side2 A7.out).mono ?_); (case side1 => exact is81_ HI0.out); (case side2 => repeat (first | (with_reducible first | exact HB.out | apply below_alloc | apply pw_below_drewN | apply below_drew1 | refine below_set ?_ (IsS81.ge HI0.out)) | exact HB.out)); rintro e w83 ⟨rfl, hi, hb, hk⟩; refine ⟨_, rfl, ?_⟩; have n0_ := Aside0.mk (Kd.R_mono (Kd.R_keep (IsS81.apart (show IsS81 w0 _ g s0_0 t208 t209 from is81_ HI0.out) (ra_ HO195.out) (by decide)) hk (fun _ h => h.2)) (fun _ h => h.1)); have n1_ := Aside0.mk (Kd.R_mono (Kd.R_keep (IsS81.apart (show IsS81 w0 _ g s0_0 t208 t209 from is81_ HI0.out) (ra_ HO206.out) (by decide)) hk (fun _ h => h.2)) (fun _ h => h.1)); have n2_ := Aside0.mk (KeepBut.trans (kb0_) hk (.inl rfl)); have n3_ := Aside0.mk (hb); have n4_ := Aside0.mk (hi); clear HO195; clear HO206; clear HK; clear HB; clear HI0; have HO195 := n0_; have HO206 := n1_; have HK := n2_; have HB := n3_; have HI0 := n4_; clear n0_ n1_ n2_ n3_ n4_; (try clear hb); (try clear hb2); (try clear hk); (try clear hi)))
          have n0_ := Aside0.mk (Kd.R_drew HO195.out)
          have n1_ := Aside0.mk (Kd.R_drew HO206.out)
          have n2_ := Aside0.mk (IsS81.drew HI0.out)
          have n3_ := Aside0.mk (keep_drew HK.out)
          have n4_ := Aside0.mk (below_drew1 HB.out)
          clear HO195
          clear HO206
          clear HI0
          clear HK
          clear HB
          have HO195 := n0_
          have HO206 := n1_
          have HI0 := n2_
          have HK := n3_
          have HB := n4_
          clear n0_ n1_ n2_ n3_ n4_
          have p237 : 0 ≤ (0 : Int) := (by omega)
          have q237 : 0 < (t204.length : Int) := od_
          obtain ⟨ad237, e237, hx237_0, hx237_1⟩ := at_T78 (Kd.R_reads' HO206.out).2.2 0 p237 q237
          cases e237
          have qi237 : (0 < t204.length) = True := eq_true (by omega)
          (try rw [show ((0 : Int)).toNat = 0 from rfl] at hx237_0)
          (try rw [show 0 * 2 = 0 from rfl] at hx237_0)
          (try rw [Addr.add_zero'] at hx237_0)
          (try rw [show ((0 : Int)).toNat = 0 from rfl] at hx237_1)
          (try rw [show 0 * 2 = 0 from rfl] at hx237_1)
          (try rw [Addr.add_zero'] at hx237_1)
          replace p237 := eq_true p237
          replace q237 := eq_true q237
          have p238 : 0 ≤ ((ji72) : Int) := od_
          have q238 : (ji72) < (t204.length : Int) := od_
          obtain ⟨ad238, e238, hx238_0, hx238_1⟩ := at_T78 (Kd.R_reads' HO206.out).2.2 (ji72) p238 q238
          obtain rfl : ad237 = ad238 := (by injection e238)
          replace p238 := eq_true p238
          replace q238 := eq_true q238
          refine start_ (n := 18) (S := fun w' => w'.cell? ad237 = some (.int .i64 ((rd_T78 t204 0).f0)) ∧ w'.cell? ⟨ad237.block, ad237.off + 1, none⟩ = some (.int .i64 ((rd_T78 t204 0).f1)) ∧ w'.cell? (ad237.add (((ji72)).toNat * 2)) = some (.int .i64 ((rd_T78 t204 (ji72)).f0)) ∧ w'.cell? ⟨(ad237.add (((ji72)).toNat * 2)).block, (ad237.add (((ji72)).toNat * 2)).off + 1, none⟩ = some (.int .i64 ((rd_T78 t204 (ji72)).f1))) (ds := [15, 16]) #[false, false, false, false, false, false, false, false, false, false, false, false, false, false, false, false, false, false] kr_ rfl rfl ⟨hx237_0, hx237_1, hx238_0, hx238_1⟩ (fun hHeld => ?_); refine with_tabW spec_l02Draw.tab20 spec_l02Draw.bits20 (fun HT_ HW_ => ?_)
          generalize w83.drew = w84 at HO195 HO206 HI0 HK HB hx237_0 hx237_1 hx238_0 hx238_1 hHeld ⊢
          refine pure_ (i := 0) (N := some 65) (v := ?_) (a' := ?_) #[true, false, false, false, false, false, false, false, false, false, false, false, false, false, false, false, false, false] rfl rfl (any_of HT_.out kr_) (fun _ _ _ h => h) (Or.inl ⟨by rfl, ?_⟩) ?_ ?_
          rotate_left
          ·intro w'
           go_simp
           with_reducible rfl
          rotate_left
          ·simp only [sp_]
           rfl
          refine pure_ (i := 1) (N := some 66) (v := ?_) (a' := ?_) #[true, true, false, false, false, false, false, false, false, false, false, false, false, false, false, false, false, false] rfl rfl (any_of HT_.out kr_) (fun _ _ _ h => h) (Or.inl ⟨by rfl, ?_⟩) ?_ ?_
          rotate_left
          ·intro w'
           go_simp
           with_reducible rfl
          rotate_left
          ·simp only [sp_]
           rfl
          refine pure_ (i := 2) (N := some 67) (v := ?_) (a' := ?_) #[true, true, true, false, false, false, false, false, false, false, false, false, false, false, false, false, false, false] rfl rfl (any_of HT_.out kr_) (fun _ _ _ h => h) (Or.inl ⟨by rfl, ?_⟩) ?_ ?_
          rotate_left
          ·intro w'
           go_simp
           with_reducible rfl
          rotate_left
          ·simp only [sp_]
           rfl
          refine pure_ (i := 3) (N := some 68) (v := ?_) (a' := ?_) #[true, true, true, true, false, false, false, false, false, false, false, false, false, false, false, false, false, false] rfl rfl (any_of HT_.out kr_) (fun _ _ _ h => h) (Or.inl ⟨by rfl, ?_⟩) ?_ ?_
          rotate_left
          ·intro w'
           go_simp
           with_reducible rfl
          rotate_left
          ·simp only [sp_]
           rfl
          refine pure_ (i := 6) (N := some 71) (v := ?_) (a' := ?_) #[true, true, true, true, false, false, true, false, false, false, false, false, false, false, false, false, false, false] rfl rfl (any_of HT_.out kr_) (fun _ _ _ h => h) (Or.inl ⟨by rfl, ?_⟩) ?_ ?_
          rotate_left
          ·intro w'
           go_simp
           with_reducible rfl
          rotate_left
          ·simp only [sp_]
           rfl
          refine pure_ (i := 7) (N := some 72) (v := ?_) (a' := ?_) #[true, true, true, true, false, false, true, true, false, false, false, false, false, false, false, false, false, false] rfl rfl (any_of HT_.out kr_) (fun _ _ _ h => h) (Or.inl ⟨by rfl, ?_⟩) ?_ ?_
          rotate_left
          ·intro w'
           go_simp
           with_reducible rfl
          rotate_left
          ·simp only [sp_]
           rfl
          refine pure_ (i := 8) (N := some 73) (v := ?_) (a' := ?_) #[true, true, true, true, false, false, true, true, true, false, false, false, false, false, false, false, false, false] rfl rfl (any_of HT_.out kr_) (fun _ _ _ h => h) (Or.inl ⟨by rfl, ?_⟩) ?_ ?_
          rotate_left
          ·intro w'
           go_simp
           with_reducible rfl
          rotate_left
          ·simp only [sp_]
           rfl
          refine pure_ (i := 9) (N := some 74) (v := ?_) (a' := ?_) #[true, true, true, true, false, false, true, true, true, true, false, false, false, false, false, false, false, false] rfl rfl (any_of HT_.out kr_) (fun _ _ _ h => h) (Or.inl ⟨by rfl, ?_⟩) ?_ ?_
          rotate_left
          ·intro w'
           go_simp
           with_reducible rfl
          rotate_left
          ·simp only [sp_]
           rfl
          refine pure_ (i := 10) (N := some 75) (v := ?_) (a' := ?_) #[true, true, true, true, false, false, true, true, true, true, true, false, false, false, false, false, false, false] rfl rfl (any_of HT_.out kr_) (fun _ _ _ h => h) (Or.inl ⟨by rfl, ?_⟩) ?_ ?_
          rotate_left
          ·intro w'
           go_simp
           with_reducible rfl
          rotate_left
          ·simp only [sp_]
           rfl
          refine pure_ (i := 11) (N := some 76) (v := ?_) (a' := ?_) #[true, true, true, true, false, false, true, true, true, true, true, true, false, false, false, false, false, false] rfl rfl (any_of HT_.out kr_) (fun _ _ _ h => h) (Or.inl ⟨by rfl, ?_⟩) ?_ ?_
          rotate_left
          ·intro w'
           go_simp
           with_reducible rfl
          rotate_left
          ·simp only [sp_]
           rfl
          refine take_ (i := 4) (N := some 69) (v := ?_) (a' := ?_) #[true, true, true, true, true, false, true, true, true, true, true, true, false, false, false, false, false, false] rfl rfl (take_ofW HT_.out HW_.out kr_) (fun _ _ _ h => h) (Or.inl ⟨by rfl, ?_⟩) hHeld ?_ ?_
          rotate_left
          ·rintro w' ⟨s0, s1, s2, s3⟩
           go_simp
           with_reducible rfl
          rotate_left
          ·simp only [sp_]
           rfl
          refine pure_ (i := 5) (N := some 70) (v := ?_) (a' := ?_) #[true, true, true, true, true, true, true, true, true, true, true, true, false, false, false, false, false, false] rfl rfl (any_of HT_.out kr_) (fun _ _ _ h => h) (Or.inl ⟨by rfl, ?_⟩) ?_ ?_
          rotate_left
          ·intro w'
           go_simp
           with_reducible rfl
          rotate_left
          ·simp only [sp_]
           rfl
          refine take_ (i := 12) (N := some 77) (v := ?_) (a' := ?_) #[true, true, true, true, true, true, true, true, true, true, true, true, true, false, false, false, false, false] rfl rfl (take_ofW HT_.out HW_.out kr_) (fun _ _ _ h => h) (Or.inl ⟨by rfl, ?_⟩) hHeld ?_ ?_
          rotate_left
          ·rintro w' ⟨s0, s1, s2, s3⟩
           go_simp
           with_reducible rfl
          rotate_left
          ·simp only [sp_]
           rfl
          refine pure_ (i := 13) (N := some 78) (v := ?_) (a' := ?_) #[true, true, true, true, true, true, true, true, true, true, true, true, true, true, false, false, false, false] rfl rfl (any_of HT_.out kr_) (fun _ _ _ h => h) (Or.inl ⟨by rfl, ?_⟩) ?_ ?_
          rotate_left
          ·intro w'
           go_simp
           with_reducible rfl
          rotate_left
          ·simp only [sp_]
           rfl
          refine pure_ (i := 14) (N := some 79) (v := ?_) (a' := ?_) #[true, true, true, true, true, true, true, true, true, true, true, true, true, true, true, false, false, false] rfl rfl (any_of HT_.out kr_) (fun _ _ _ h => h) (Or.inl ⟨by rfl, ?_⟩) ?_ ?_
          rotate_left
          ·intro w'
           go_simp
           with_reducible rfl
          rotate_left
          ·simp only [sp_]
           rfl
          refine last_ (i := 15) (N := some 80) #[true, true, true, true, true, true, true, true, true, true, true, true, true, true, true, true, false, false] rfl rfl (one_of HT_.out kr_) (by decide) (fun K hK => ?_)
          refine value_ (w1 := ?_) (v := ?_) (by rfl) rfl ?_ ?_
          rotate_left 2
          ·go_simp
           constructor
           ·rfl
           ·rfl
          refine hK.out _ _ ?_
          clear hK K
          refine norm_ (a' := ?_) ?_ ?_
          rotate_left
          ·show Act.put _ (some 80) _ = _
           simp only [sp_]
           rfl
          refine last_ (i := 16) (N := some 81) #[true, true, true, true, true, true, true, true, true, true, true, true, true, true, true, true, true, false] rfl rfl (one_of HT_.out kr_) (by decide) (fun K hK => ?_)
          refine Kd.R_append_step k78 w.heap.size (by rfl) (.tmp 65) (.tmp 80) 24 78 (.agg #[(.int .i64 0), (.int .i64 0)]) 16 rfl Tryd.underlying24 info78 rfl (by decide) (by omega) (.slice (some ad237) t204.length co81) t204 (⟨wrap64 (((rd_T78 t204 0).f0) + 3), wrap64 (((rd_T78 t204 (ji72)).f1) + 2)⟩ : S78) [.int .i64 (wrap64 (((rd_T78 t204 0).f0) + 3)), .int .i64 (wrap64 (((rd_T78 t204 (ji72)).f1) + 2))] (fun k_ => some k_ ≠ (.slice Ao79 t193.length co79 : Value).ownBlock) (fun _ => False) rfl rfl ?aP (fun _ hk => hk.elim) ?aF ?aO (Below.refl _ _) ?aS ?aL ?_
          (case aP => exact k78_mkM _ _ _ (⟨wrap64 (((rd_T78 t204 0).f0) + 3), wrap64 (((rd_T78 t204 (ji72)).f1) + 2)⟩ : S78))
          (case aF => exact (fun k_ hk => Kd.fresh' (Kd.R_lt (ra_ HO195.out)) k_ hk))
          (case aO => exact (by (with_reducible repeat (first | apply Kd.R_alloc | apply Kd.R_drewN | apply Kd.R_drew)); exact Kd.R_mono HO206.out (fun _ hk => hk.2)))
          (case aS => exact (keep_size (w := w) (g := g) (row := none) (kb0_)))
          (case aL => have := LMc75.out; omega)
          intro v240 w85 ho hb hg hat
          rw [← Ny239.out] at ho
          have n0_ := Aside0.mk (IsS81.grown (is81_ HI0.out) hg (IsS81.own_ne HI0.out HO206.out (by decide)))
          have n1_ := Aside0.mk (Kd.R_after (ok := (fun _ => True)) (ra_ HO195.out) hg hat)
          have n2_ := Aside0.mk (below_weaken (by repeat (first | (with_reducible first | exact HB.out | apply below_alloc | apply pw_below_drewN | apply below_drew1 | refine below_set ?_ (IsS81.ge HI0.out)) | exact HB.out)) HL.out hb)
          have n3_ := Aside0.mk (KeepBut.trans (kb0_) (KeepBut.of_grown hg g) (Kd.R_base2 HO206.out))
          have n4_ := Aside0.mk (ho)
          clear HI0
          clear HO195
          clear HB
          clear HK
          clear HO206
          have HI0 := n0_
          have HO195 := n1_
          have HB := n2_
          have HK := n3_
          have HO241 := n4_
          clear n0_ n1_ n2_ n3_ n4_
          clear ho hb hg hat
          refine hK.out _ _ ?_
          clear hK K
          refine norm_ (a' := ?_) ?_ ?_
          rotate_left
          ·show Act.put _ (some 81) _ = _
           simp only [sp_]
           rfl
          refine pure_ (i := 17) (N := some 2) (v := ?_) (a' := ?_) #[true, true, true, true, true, true, true, true, true, true, true, true, true, true, true, true, true, true] rfl rfl (any_of HT_.out kr_) (fun _ _ _ h => h) (Or.inl ⟨by rfl, ?_⟩) ?_ ?_
          rotate_left
          ·intro w'
           go_simp
           with_reducible rfl
          rotate_left
          ·simp only [sp_]
           rfl
          refine done_ (done_of HT_.out kr_) ?_
          try go_wp2
          go_ret
          exact ⟨_, by first | rfl | (simp [errW_none, errW_some] <;> rfl) | (simp only [← hji72]; first | rfl | (simp [errW_none, errW_some] <;> rfl)) | (simp [*, errW_none, errW_some] <;> rfl), by (with_reducible repeat (first | apply Kd.R_alloc | apply Kd.R_drewN | apply Kd.R_drew)); exact Kd.R_mono HO241.out (fun _ hk => trivial), is81_ HI0.out, by repeat (first | (with_reducible first | exact HB.out | apply below_alloc | apply pw_below_drewN | apply below_drew1 | refine below_set ?_ (IsS81.ge HI0.out)) | exact HB.out), kb0_⟩
         ·rw [if_neg c75] at H
          exact absurd H (by simp)
        ·rw [if_neg c74] at H
         exact absurd H (by simp)
       ·rw [if_neg c73] at H
        exact absurd H (by simp)
      ·rw [if_neg c71] at H
       exact absurd H (by simp)
     ·rw [if_neg c70] at H
      have c70b0 : (t210 == 4) = false := beq_eq_false_iff_ne.mpr c70
      have c70b1 : (t210 != 4) = true := bne_iff_ne.mpr c70
      by_cases c86 : t210 = 5
      ·rw [if_pos c86] at H
       have c86b0 : (t210 == 5) = true := beq_iff_eq.mpr c86
       have c86b1 : (t210 != 5) = false := bne_eq_false_iff_eq.mpr c86
       clear c86
       by_cases c87 : 0 < (t204.length : Int)
       ·rw [if_pos c87] at H
        have c87b0 : decide (0 < (t204.length : Int)) = true := decide_eq_true c87
        have c87b1 : decide (0 < t204.length) = true := decide_eq_true (by omega)
        clear c87
        obtain ⟨ji88, hji88⟩ : ∃ j_ : Int, (wrap64 ((t204.length : Int) - 1)) = j_ := ⟨_, rfl⟩
        replace H : (if 0 ≤ (ji88) then (if (ji88) < (t204.length : Int) then (if t204.length < 8796093022208 then (some ((t204 ++ [(⟨wrap64 (((rd_T78 t204 0).f0) + 3), wrap64 (((rd_T78 t204 (ji88)).f1) + 2)⟩ : S78)]), t211, t212)) else (none)) else (none)) else (none)) = some (r1, r2, r3) := by first | (rw [hji88] at H; exact H) | (simp only [hji88] at H ⊢; exact H)
        (try rw [hji88] at A2)
        (try rw [hji88] at A3)
        (try rw [hji88] at A4)
        (try rw [hji88] at A5)
        (try rw [hji88] at A6)
        (try rw [hji88] at A7)
        have hji88w : (IntKind.i64.wrap ((t204.length : Int) - 1)) = ji88 := (i64_w _).trans hji88
        by_cases c89 : 0 ≤ (ji88)
        ·rw [if_pos c89] at H
         have c89b0 : decide (0 ≤ (ji88)) = true := decide_eq_true c89
         clear c89
         by_cases c90 : (ji88) < (t204.length : Int)
         ·rw [if_pos c90] at H
          have c90b0 : decide ((ji88) < (t204.length : Int)) = true := decide_eq_true c90
          clear c90
          by_cases c91 : t204.length < 8796093022208
          ·rw [if_pos c91] at H
           have LMc91 := Aside0.mk c91
           clear c91
           obtain ⟨y244, hy244⟩ : ∃ y_ : List (S78), y_ = (t204 ++ [(⟨wrap64 (((rd_T78 t204 0).f0) + 3), wrap64 (((rd_T78 t204 (ji88)).f1) + 2)⟩ : S78)]) := ⟨_, rfl⟩
           replace H : (some (y244, t211, t212)) = some (r1, r2, r3) := by first | (rw [hy244]; with_reducible exact H) | (have H2_ := (Option.bind_some _ _).symm.trans H; rw [hy244]; with_reducible exact H2_) | (have H2_ := (Option.bind_some _ _).symm.trans H; with_reducible exact H2_) | with_reducible exact H | (rw [hy244]; exact H) | exact H
           have Ny244 := Aside0.mk hy244
           clear hy244
           simp only [Option.some.injEq, Prod.mk.injEq] at H
           obtain ⟨rfl, rfl, rfl⟩ := H
           go_enter Tryd.func33, Tryd.ntmps33
           try go_wp2_with (first | ((with_reducible refine gate_callee (f := 62) rfl ?_); refine goesL_ (some 8) rfl rfl Tryd.func62 kr_ rfl #[.pointer (some ⟨g, 0, none⟩), .int .i64 8] rfl ta_ ?_; (with_reducible refine (spec_l02DrawPoly.calls k g s0_0 s0_1 s0_2 8 t193 t196 t197 w0 _ ?side1 ?side2 A2.out).mono ?_); (case side1 => exact is81_ HI0.out); (case side2 => repeat (first | (with_reducible first | exact HB.out | apply below_alloc | apply pw_below_drewN | apply below_drew1 | refine below_set ?_ (IsS81.ge HI0.out)) | exact HB.out)); rintro e w92 ⟨v194, rfl, ho0, hi, hb, hk⟩; refine ⟨_, rfl, ?_⟩; have n0_ := Aside0.mk (Kd.R_lower ho0 (keep_size (w := w) (g := g) (row := none) (kb0_))); have n1_ := Aside0.mk (KeepBut.trans (kb0_) hk (.inl rfl)); have n2_ := Aside0.mk (hb); have n3_ := Aside0.mk (hi); clear HK; clear HB; clear HI0; have HO195 := n0_; have HK := n1_; have HB := n2_; have HI0 := n3_; clear n0_ n1_ n2_ n3_; (try clear hb); (try clear hb2); (try clear hk); (try clear hi); (try clear ho0)) | ((with_reducible refine gate_callee (f := 58) rfl ?_); refine goesL_ (some 10) rfl rfl Tryd.func58 kr_ rfl #[.pointer (some ⟨g, 0, none⟩), .int .i64 9] rfl ta_ ?_; (with_reducible refine (spec_l01Next.calls g s0_0 t196 t197 9 t198 t199 t200 w0 _ ?side1 ?side2 A3.out).mono ?_); (case side1 => exact is81_ HI0.out); (case side2 => repeat (first | (with_reducible first | exact HB.out | apply below_alloc | apply pw_below_drewN | apply below_drew1 | refine below_set ?_ (IsS81.ge HI0.out)) | exact HB.out)); rintro e w93 ⟨rfl, hi, hb, hk⟩; refine ⟨_, rfl, ?_⟩; have n0_ := Aside0.mk (Kd.R_mono (Kd.R_keep (IsS81.apart (show IsS81 w0 _ g s0_0 t196 t197 from is81_ HI0.out) (ra_ HO195.out) (by decide)) hk (fun _ h => h.2)) (fun _ h => h.1)); have n1_ := Aside0.mk (KeepBut.trans (kb0_) hk (.inl rfl)); have n2_ := Aside0.mk (hb); have n3_ := Aside0.mk (hi); clear HO195; clear HK; clear HB; clear HI0; have HO195 := n0_; have HK := n1_; have HB := n2_; have HI0 := n3_; clear n0_ n1_ n2_ n3_; (try clear hb); (try clear hb2); (try clear hk); (try clear hi)) | ((with_reducible refine gate_callee (f := 58) rfl ?_); refine goesL_ (some 13) rfl rfl Tryd.func58 kr_ rfl #[.pointer (some ⟨g, 0, none⟩), .int .i64 9] rfl ta_ ?_; (with_reducible refine (spec_l01Next.calls g s0_0 t199 t200 9 t201 t202 t203 w0 _ ?side1 ?side2 A4.out).mono ?_); (case side1 => exact is81_ HI0.out); (case side2 => repeat (first | (with_reducible first | exact HB.out | apply below_alloc | apply pw_below_drewN | apply below_drew1 | refine below_set ?_ (IsS81.ge HI0.out)) | exact HB.out)); rintro e w94 ⟨rfl, hi, hb, hk⟩; refine ⟨_, rfl, ?_⟩; have n0_ := Aside0.mk (Kd.R_mono (Kd.R_keep (IsS81.apart (show IsS81 w0 _ g s0_0 t199 t200 from is81_ HI0.out) (ra_ HO195.out) (by decide)) hk (fun _ h => h.2)) (fun _ h => h.1)); have n1_ := Aside0.mk (KeepBut.trans (kb0_) hk (.inl rfl)); have n2_ := Aside0.mk (hb); have n3_ := Aside0.mk (hi); clear HO195; clear HK; clear HB; clear HI0; have HO195 := n0_; have HK := n1_; have HB := n2_; have HI0 := n3_; clear n0_ n1_ n2_ n3_; (try clear hb); (try clear hb2); (try clear hk); (try clear hi); obtain ⟨Ao95, co95, eo95⟩ := Kd.R_slice HO195.out; subst eo95) | ((with_reducible refine gate_callee (f := 61) rfl ?_); refine goesL_ (some 15) rfl rfl Tryd.func61 kr_ rfl #[.slice Ao95 t193.length co95, .int .i64 (wrap64 (t198 - 4)), .int .i64 (wrap64 (t201 - 4))] rfl ta_ ?_; (with_reducible refine (spec_l02Move.calls k _ _ t193 (wrap64 (t198 - 4)) (wrap64 (t201 - 4)) t204 _ ?side1 ?side2 A5.out).mono ?_); (case side1 => exact ca_ (Kd.R_reads' HO195.out).2.2); (case side2 => exact (Kd.R_reads' HO195.out).2.1); rintro e w96 ⟨v205, rfl, ho0, hb⟩; refine ⟨_, rfl, ?_⟩; have n0_ := Aside0.mk (Kd.R_elder' (ra_ HO195.out) (Kd.R_base ho0) hb); have n1_ := Aside0.mk (Kd.R_lower (Kd.R_new' ho0 (Kd.R_lt (ra_ HO195.out))) (keep_size (w := w) (g := g) (row := none) (kb0_))); have n2_ := Aside0.mk (IsS81.below (is81_ HI0.out) hb); have n3_ := Aside0.mk (KeepBut.trans (kb0_) (KeepBut.of_below hb g none) (.inl rfl)); have n4_ := Aside0.mk (below_step (by repeat (first | (with_reducible first | exact HB.out | apply below_alloc | apply pw_below_drewN | apply below_drew1 | refine below_set ?_ (IsS81.ge HI0.out)) | exact HB.out)) hb); clear HO195; clear HI0; clear HK; clear HB; have HO195 := n0_; have HO206 := n1_; have HI0 := n2_; have HK := n3_; have HB := n4_; clear n0_ n1_ n2_ n3_ n4_; (try clear hb); (try clear hb2); (try clear hk); (try clear hi); (try clear ho0); obtain ⟨Ao97, co97, eo97⟩ := Kd.R_slice HO206.out; subst eo97) | ((with_reducible refine gate_callee (f := 58) rfl ?_); refine goesL_ (some 19) rfl rfl Tryd.func58 kr_ rfl #[.pointer (some ⟨g, 0, none⟩), .int .i64 (t204.length : Int)] rfl ta_ ?_; (with_reducible refine (spec_l01Next.calls g s0_0 t202 t203 (t204.length : Int) t207 t208 t209 w0 _ ?side1 ?side2 A6.out).mono ?_); (case side1 => exact is81_ HI0.out); (case side2 => repeat (first | (with_reducible first | exact HB.out | apply below_alloc | apply pw_below_drewN | apply below_drew1 | refine below_set ?_ (IsS81.ge HI0.out)) | exact HB.out)); rintro e w98 ⟨rfl, hi, hb, hk⟩; refine ⟨_, rfl, ?_⟩; have n0_ := Aside0.mk (Kd.R_mono (Kd.R_keep (IsS81.apart (show IsS81 w0 _ g s0_0 t202 t203 from is81_ HI0.out) (ra_ HO195.out) (by decide)) hk (fun _ h => h.2)) (fun _ h => h.1)); have n1_ := Aside0.mk (Kd.R_mono (Kd.R_keep (IsS81.apart (show IsS81 w0 _ g s0_0 t202 t203 from is81_ HI0.out) (ra_ HO206.out) (by decide)) hk (fun _ h => h.2)) (fun _ h => h.1)); have n2_ := Aside0.mk (KeepBut.trans (kb0_) hk (.inl rfl)); have n3_ := Aside0.mk (hb); have n4_ := Aside0.mk (hi); clear HO195; clear HO206; clear HK; clear HB; clear HI0; have HO195 := n0_; have HO206 := n1_; have HK := n2_; have HB := n3_; have HI0 := n4_; clear n0_ n1_ n2_ n3_ n4_; (try clear hb); (try clear hb2); (try clear hk); (try clear hi)) | ((with_reducible refine gate_callee (f := 58) rfl ?_); refine goesL_ (some 21) rfl rfl Tryd.func58 kr_ rfl #[.pointer (some ⟨g, 0, none⟩), .int .i64 24] rfl ta_ ?_; (with_reducible refine (spec_l01Next.calls g s0_0 t208 t209 24 t210 t211 t212 w0 _ ?side1 ?side2 A7.out).mono ?_); (case side1 => exact is81_ HI0.out); (case side2 => repeat (first | (with_reducible first | exact HB.out | apply below_alloc | apply pw_below_drewN | apply below_drew1 | refine below_set ?_ (IsS81.ge HI0.out)) | exact HB.out)); rintro e w99 ⟨rfl, hi, hb, hk⟩; refine ⟨_, rfl, ?_⟩; have n0_ := Aside0.mk (Kd.R_mono (Kd.R_keep (IsS81.apart (show IsS81 w0 _ g s0_0 t208 t209 from is81_ HI0.out) (ra_ HO195.out) (by decide)) hk (fun _ h => h.2)) (fun _ h => h.1)); have n1_ := Aside0.mk (Kd.R_mono (Kd.R_keep (IsS81.apart (show IsS81 w0 _ g s0_0 t208 t209 from is81_ HI0.out) (ra_ HO206.out) (by decide)) hk (fun _ h => h.2)) (fun _ h => h.1)); have n2_ := Aside0.mk (KeepBut.trans (kb0_) hk (.inl rfl)); have n3_ := Aside0.mk (hb); have n4_ := Aside0.mk (hi); clear HO195; clear HO206; clear HK; clear HB; clear HI0; have HO195 := n0_; have HO206 := n1_; have HK := n2_; have HB := n3_; have HI0 := n4_; clear n0_ n1_ n2_ n3_ n4_; (try clear hb); (try clear hb2); (try clear hk); (try clear hi)))
           have n0_ := Aside0.mk (Kd.R_drew HO195.out)
           have n1_ := Aside0.mk (Kd.R_drew HO206.out)
           have n2_ := Aside0.mk (IsS81.drew HI0.out)
           have n3_ := Aside0.mk (keep_drew HK.out)
           have n4_ := Aside0.mk (below_drew1 HB.out)
           clear HO195
           clear HO206
           clear HI0
           clear HK
           clear HB
           have HO195 := n0_
           have HO206 := n1_
           have HI0 := n2_
           have HK := n3_
           have HB := n4_
           clear n0_ n1_ n2_ n3_ n4_
           have p242 : 0 ≤ (0 : Int) := (by omega)
           have q242 : 0 < (t204.length : Int) := od_
           obtain ⟨ad242, e242, hx242_0, hx242_1⟩ := at_T78 (Kd.R_reads' HO206.out).2.2 0 p242 q242
           cases e242
           have qi242 : (0 < t204.length) = True := eq_true (by omega)
           (try rw [show ((0 : Int)).toNat = 0 from rfl] at hx242_0)
           (try rw [show 0 * 2 = 0 from rfl] at hx242_0)
           (try rw [Addr.add_zero'] at hx242_0)
           (try rw [show ((0 : Int)).toNat = 0 from rfl] at hx242_1)
           (try rw [show 0 * 2 = 0 from rfl] at hx242_1)
           (try rw [Addr.add_zero'] at hx242_1)
           replace p242 := eq_true p242
           replace q242 := eq_true q242
           have p243 : 0 ≤ ((ji88) : Int) := od_
           have q243 : (ji88) < (t204.length : Int) := od_
           obtain ⟨ad243, e243, hx243_0, hx243_1⟩ := at_T78 (Kd.R_reads' HO206.out).2.2 (ji88) p243 q243
           obtain rfl : ad242 = ad243 := (by injection e243)
           replace p243 := eq_true p243
           replace q243 := eq_true q243
           refine start_ (n := 18) (S := fun w' => w'.cell? ad242 = some (.int .i64 ((rd_T78 t204 0).f0)) ∧ w'.cell? ⟨ad242.block, ad242.off + 1, none⟩ = some (.int .i64 ((rd_T78 t204 0).f1)) ∧ w'.cell? (ad242.add (((ji88)).toNat * 2)) = some (.int .i64 ((rd_T78 t204 (ji88)).f0)) ∧ w'.cell? ⟨(ad242.add (((ji88)).toNat * 2)).block, (ad242.add (((ji88)).toNat * 2)).off + 1, none⟩ = some (.int .i64 ((rd_T78 t204 (ji88)).f1))) (ds := [15, 16]) #[false, false, false, false, false, false, false, false, false, false, false, false, false, false, false, false, false, false] kr_ rfl rfl ⟨hx242_0, hx242_1, hx243_0, hx243_1⟩ (fun hHeld => ?_); refine with_tabW spec_l02Draw.tab20 spec_l02Draw.bits20 (fun HT_ HW_ => ?_)
           generalize w99.drew = w100 at HO195 HO206 HI0 HK HB hx242_0 hx242_1 hx243_0 hx243_1 hHeld ⊢
           refine pure_ (i := 0) (N := some 65) (v := ?_) (a' := ?_) #[true, false, false, false, false, false, false, false, false, false, false, false, false, false, false, false, false, false] rfl rfl (any_of HT_.out kr_) (fun _ _ _ h => h) (Or.inl ⟨by rfl, ?_⟩) ?_ ?_
           rotate_left
           ·intro w'
            go_simp
            with_reducible rfl
           rotate_left
           ·simp only [sp_]
            rfl
           refine pure_ (i := 1) (N := some 66) (v := ?_) (a' := ?_) #[true, true, false, false, false, false, false, false, false, false, false, false, false, false, false, false, false, false] rfl rfl (any_of HT_.out kr_) (fun _ _ _ h => h) (Or.inl ⟨by rfl, ?_⟩) ?_ ?_
           rotate_left
           ·intro w'
            go_simp
            with_reducible rfl
           rotate_left
           ·simp only [sp_]
            rfl
           refine pure_ (i := 2) (N := some 67) (v := ?_) (a' := ?_) #[true, true, true, false, false, false, false, false, false, false, false, false, false, false, false, false, false, false] rfl rfl (any_of HT_.out kr_) (fun _ _ _ h => h) (Or.inl ⟨by rfl, ?_⟩) ?_ ?_
           rotate_left
           ·intro w'
            go_simp
            with_reducible rfl
           rotate_left
           ·simp only [sp_]
            rfl
           refine pure_ (i := 3) (N := some 68) (v := ?_) (a' := ?_) #[true, true, true, true, false, false, false, false, false, false, false, false, false, false, false, false, false, false] rfl rfl (any_of HT_.out kr_) (fun _ _ _ h => h) (Or.inl ⟨by rfl, ?_⟩) ?_ ?_
           rotate_left
           ·intro w'
            go_simp
            with_reducible rfl
           rotate_left
           ·simp only [sp_]
            rfl
           refine pure_ (i := 6) (N := some 71) (v := ?_) (a' := ?_) #[true, true, true, true, false, false, true, false, false, false, false, false, false, false, false, false, false, false] rfl rfl (any_of HT_.out kr_) (fun _ _ _ h => h) (Or.inl ⟨by rfl, ?_⟩) ?_ ?_
           rotate_left
           ·intro w'
            go_simp
            with_reducible rfl
           rotate_left
           ·simp only [sp_]
            rfl
           refine pure_ (i := 7) (N := some 72) (v := ?_) (a' := ?_) #[true, true, true, true, false, false, true, true, false, false, false, false, false, false, false, false, false, false] rfl rfl (any_of HT_.out kr_) (fun _ _ _ h => h) (Or.inl ⟨by rfl, ?_⟩) ?_ ?_
           rotate_left
           ·intro w'
            go_simp
            with_reducible rfl
           rotate_left
           ·simp only [sp_]
            rfl
           refine pure_ (i := 8) (N := some 73) (v := ?_) (a' := ?_) #[true, true, true, true, false, false, true, true, true, false, false, false, false, false, false, false, false, false] rfl rfl (any_of HT_.out kr_) (fun _ _ _ h => h) (Or.inl ⟨by rfl, ?_⟩) ?_ ?_
           rotate_left
           ·intro w'
            go_simp
            with_reducible rfl
           rotate_left
           ·simp only [sp_]
            rfl
           refine pure_ (i := 9) (N := some 74) (v := ?_) (a' := ?_) #[true, true, true, true, false, false, true, true, true, true, false, false, false, false, false, false, false, false] rfl rfl (any_of HT_.out kr_) (fun _ _ _ h => h) (Or.inl ⟨by rfl, ?_⟩) ?_ ?_
           rotate_left
           ·intro w'
            go_simp
            with_reducible rfl
           rotate_left
           ·simp only [sp_]
            rfl
           refine pure_ (i := 10) (N := some 75) (v := ?_) (a' := ?_) #[true, true, true, true, false, false, true, true, true, true, true, false, false, false, false, false, false, false] rfl rfl (any_of HT_.out kr_) (fun _ _ _ h => h) (Or.inl ⟨by rfl, ?_⟩) ?_ ?_
           rotate_left
           ·intro w'
            go_simp
            with_reducible rfl
           rotate_left
           ·simp only [sp_]
            rfl
           refine pure_ (i := 11) (N := some 76) (v := ?_) (a' := ?_) #[true, true, true, true, false, false, true, true, true, true, true, true, false, false, false, false, false, false] rfl rfl (any_of HT_.out kr_) (fun _ _ _ h => h) (Or.inl ⟨by rfl, ?_⟩) ?_ ?_
           rotate_left
           ·intro w'
            go_simp
            with_reducible rfl
           rotate_left
           ·simp only [sp_]
            rfl
           refine take_ (i := 4) (N := some 69) (v := ?_) (a' := ?_) #[true, true, true, true, true, false, true, true, true, true, true, true, false, false, false, false, false, false] rfl rfl (take_ofW HT_.out HW_.out kr_) (fun _ _ _ h => h) (Or.inl ⟨by rfl, ?_⟩) hHeld ?_ ?_
           rotate_left
           ·rintro w' ⟨s0, s1, s2, s3⟩
            go_simp
            with_reducible rfl
           rotate_left
           ·simp only [sp_]
            rfl
           refine pure_ (i := 5) (N := some 70) (v := ?_) (a' := ?_) #[true, true, true, true, true, true, true, true, true, true, true, true, false, false, false, false, false, false] rfl rfl (any_of HT_.out kr_) (fun _ _ _ h => h) (Or.inl ⟨by rfl, ?_⟩) ?_ ?_
           rotate_left
           ·intro w'
            go_simp
            with_reducible rfl
           rotate_left
           ·simp only [sp_]
            rfl
           refine take_ (i := 12) (N := some 77) (v := ?_) (a' := ?_) #[true, true, true, true, true, true, true, true, true, true, true, true, true, false, false, false, false, false] rfl rfl (take_ofW HT_.out HW_.out kr_) (fun _ _ _ h => h) (Or.inl ⟨by rfl, ?_⟩) hHeld ?_ ?_
           rotate_left
           ·rintro w' ⟨s0, s1, s2, s3⟩
            go_simp
            with_reducible rfl
           rotate_left
           ·simp only [sp_]
            rfl
           refine pure_ (i := 13) (N := some 78) (v := ?_) (a' := ?_) #[true, true, true, true, true, true, true, true, true, true, true, true, true, true, false, false, false, false] rfl rfl (any_of HT_.out kr_) (fun _ _ _ h => h) (Or.inl ⟨by rfl, ?_⟩) ?_ ?_
           rotate_left
           ·intro w'
            go_simp
            with_reducible rfl
           rotate_left
           ·simp only [sp_]
            rfl
           refine pure_ (i := 14) (N := some 79) (v := ?_) (a' := ?_) #[true, true, true, true, true, true, true, true, true, true, true, true, true, true, true, false, false, false] rfl rfl (any_of HT_.out kr_) (fun _ _ _ h => h) (Or.inl ⟨by rfl, ?_⟩) ?_ ?_
           rotate_left
           ·intro w'
            go_simp
            with_reducible rfl
           rotate_left
           ·simp only [sp_]
            rfl
           refine last_ (i := 15) (N := some 80) #[true, true, true, true, true, true, true, true, true, true, true, true, true, true, true, true, false, false] rfl rfl (one_of HT_.out kr_) (by decide) (fun K hK => ?_)
           refine value_ (w1 := ?_) (v := ?_) (by rfl) rfl ?_ ?_
           rotate_left 2
           ·go_simp
            constructor
            ·rfl
            ·rfl
           refine hK.out _ _ ?_
           clear hK K
           refine norm_ (a' := ?_) ?_ ?_
           rotate_left
           ·show Act.put _ (some 80) _ = _
            simp only [sp_]
            rfl
           refine last_ (i := 16) (N := some 81) #[true, true, true, true, true, true, true, true, true, true, true, true, true, true, true, true, true, false] rfl rfl (one_of HT_.out kr_) (by decide) (fun K hK => ?_)
           refine Kd.R_append_step k78 w.heap.size (by rfl) (.tmp 65) (.tmp 80) 24 78 (.agg #[(.int .i64 0), (.int .i64 0)]) 16 rfl Tryd.underlying24 info78 rfl (by decide) (by omega) (.slice (some ad242) t204.length co97) t204 (⟨wrap64 (((rd_T78 t204 0).f0) + 3), wrap64 (((rd_T78 t204 (ji88)).f1) + 2)⟩ : S78) [.int .i64 (wrap64 (((rd_T78 t204 0).f0) + 3)), .int .i64 (wrap64 (((rd_T78 t204 (ji88)).f1) + 2))] (fun k_ => some k_ ≠ (.slice Ao95 t193.length co95 : Value).ownBlock) (fun _ => False) rfl rfl ?aP (fun _ hk => hk.elim) ?aF ?aO (Below.refl _ _) ?aS ?aL ?_
           (case aP => exact k78_mkM _ _ _ (⟨wrap64 (((rd_T78 t204 0).f0) + 3), wrap64 (((rd_T78 t204 (ji88)).f1) + 2)⟩ : S78))
           (case aF => exact (fun k_ hk => Kd.fresh' (Kd.R_lt (ra_ HO195.out)) k_ hk))
           (case aO => exact (by (with_reducible repeat (first | apply Kd.R_alloc | apply Kd.R_drewN | apply Kd.R_drew)); exact Kd.R_mono HO206.out (fun _ hk => hk.2)))
           (case aS => exact (keep_size (w := w) (g := g) (row := none) (kb0_)))
           (case aL => have := LMc91.out; omega)
           intro v245 w101 ho hb hg hat
           rw [← Ny244.out] at ho
           have n0_ := Aside0.mk (IsS81.grown (is81_ HI0.out) hg (IsS81.own_ne HI0.out HO206.out (by decide)))
           have n1_ := Aside0.mk (Kd.R_after (ok := (fun _ => True)) (ra_ HO195.out) hg hat)
           have n2_ := Aside0.mk (below_weaken (by repeat (first | (with_reducible first | exact HB.out | apply below_alloc | apply pw_below_drewN | apply below_drew1 | refine below_set ?_ (IsS81.ge HI0.out)) | exact HB.out)) HL.out hb)
           have n3_ := Aside0.mk (KeepBut.trans (kb0_) (KeepBut.of_grown hg g) (Kd.R_base2 HO206.out))
           have n4_ := Aside0.mk (ho)
           clear HI0
           clear HO195
           clear HB
           clear HK
           clear HO206
           have HI0 := n0_
           have HO195 := n1_
           have HB := n2_
           have HK := n3_
           have HO246 := n4_
           clear n0_ n1_ n2_ n3_ n4_
           clear ho hb hg hat
           refine hK.out _ _ ?_
           clear hK K
           refine norm_ (a' := ?_) ?_ ?_
           rotate_left
           ·show Act.put _ (some 81) _ = _
            simp only [sp_]
            rfl
           refine pure_ (i := 17) (N := some 2) (v := ?_) (a' := ?_) #[true, true, true, true, true, true, true, true, true, true, true, true, true, true, true, true, true, true] rfl rfl (any_of HT_.out kr_) (fun _ _ _ h => h) (Or.inl ⟨by rfl, ?_⟩) ?_ ?_
           rotate_left
           ·intro w'
            go_simp
            with_reducible rfl
           rotate_left
           ·simp only [sp_]
            rfl
           refine done_ (done_of HT_.out kr_) ?_
           try go_wp2
           go_ret
           exact ⟨_, by first | rfl | (simp [errW_none, errW_some] <;> rfl) | (simp only [← hji88]; first | rfl | (simp [errW_none, errW_some] <;> rfl)) | (simp [*, errW_none, errW_some] <;> rfl), by (with_reducible repeat (first | apply Kd.R_alloc | apply Kd.R_drewN | apply Kd.R_drew)); exact Kd.R_mono HO246.out (fun _ hk => trivial), is81_ HI0.out, by repeat (first | (with_reducible first | exact HB.out | apply below_alloc | apply pw_below_drewN | apply below_drew1 | refine below_set ?_ (IsS81.ge HI0.out)) | exact HB.out), kb0_⟩
          ·rw [if_neg c91] at H
           exact absurd H (by simp)
         ·rw [if_neg c90] at H
          exact absurd H (by simp)
        ·rw [if_neg c89] at H
         exact absurd H (by simp)
       ·rw [if_neg c87] at H
        exact absurd H (by simp)
      ·rw [if_neg c86] at H
       have c86b0 : (t210 == 5) = false := beq_eq_false_iff_ne.mpr c86
       have c86b1 : (t210 != 5) = true := bne_iff_ne.mpr c86
       simp only [Option.some.injEq, Prod.mk.injEq] at H
       obtain ⟨rfl, rfl, rfl⟩ := H
       go_enter Tryd.func33, Tryd.ntmps33
       go_wp2_with (first | ((with_reducible refine gate_callee (f := 62) rfl ?_); refine goesL_ (some 8) rfl rfl Tryd.func62 kr_ rfl #[.pointer (some ⟨g, 0, none⟩), .int .i64 8] rfl ta_ ?_; (with_reducible refine (spec_l02DrawPoly.calls k g s0_0 s0_1 s0_2 8 t193 t196 t197 w0 _ ?side1 ?side2 A2.out).mono ?_); (case side1 => exact is81_ HI0.out); (case side2 => repeat (first | (with_reducible first | exact HB.out | apply below_alloc | apply pw_below_drewN | apply below_drew1 | refine below_set ?_ (IsS81.ge HI0.out)) | exact HB.out)); rintro e w102 ⟨v194, rfl, ho0, hi, hb, hk⟩; refine ⟨_, rfl, ?_⟩; have n0_ := Aside0.mk (Kd.R_lower ho0 (keep_size (w := w) (g := g) (row := none) (kb0_))); have n1_ := Aside0.mk (KeepBut.trans (kb0_) hk (.inl rfl)); have n2_ := Aside0.mk (hb); have n3_ := Aside0.mk (hi); clear HK; clear HB; clear HI0; have HO195 := n0_; have HK := n1_; have HB := n2_; have HI0 := n3_; clear n0_ n1_ n2_ n3_; (try clear hb); (try clear hb2); (try clear hk); (try clear hi); (try clear ho0)) | ((with_reducible refine gate_callee (f := 58) rfl ?_); refine goesL_ (some 10) rfl rfl Tryd.func58 kr_ rfl #[.pointer (some ⟨g, 0, none⟩), .int .i64 9] rfl ta_ ?_; (with_reducible refine (spec_l01Next.calls g s0_0 t196 t197 9 t198 t199 t200 w0 _ ?side1 ?side2 A3.out).mono ?_); (case side1 => exact is81_ HI0.out); (case side2 => repeat (first | (with_reducible first | exact HB.out | apply below_alloc | apply pw_below_drewN | apply below_drew1 | refine below_set ?_ (IsS81.ge HI0.out)) | exact HB.out)); rintro e w103 ⟨rfl, hi, hb, hk⟩; refine ⟨_, rfl, ?_⟩; have n0_ := Aside0.mk (Kd.R_mono (Kd.R_keep (IsS81.apart (show IsS81 w0 _ g s0_0 t196 t197 from is81_ HI0.out) (ra_ HO195.out) (by decide)) hk (fun _ h => h.2)) (fun _ h => h.1)); have n1_ := Aside0.mk (KeepBut.trans (kb0_) hk (.inl rfl)); have n2_ := Aside0.mk (hb); have n3_ := Aside0.mk (hi); clear HO195; clear HK; clear HB; clear HI0; have HO195 := n0_; have HK := n1_; have HB := n2_; have HI0 := n3_; clear n0_ n1_ n2_ n3_; (try clear hb); (try clear hb2); (try clear hk); (try clear hi)) | ((with_reducible refine gate_callee (f := 58) rfl ?_); refine goesL_ (some 13) rfl rfl Tryd.func58 kr_ rfl #[.pointer (some ⟨g, 0, none⟩), .int .i64 9] rfl ta_ ?_; (with_reducible refine (spec_l01Next.calls g s0_0 t199 t200 9 t201 t202 t203 w0 _ ?side1 ?side2 A4.out).mono ?_); (case side1 => exact is81_ HI0.out); (case side2 => repeat (first | (with_reducible first | exact HB.out | apply below_alloc | apply pw_below_drewN | apply below_drew1 | refine below_set ?_ (IsS81.ge HI0.out)) | exact HB.out)); rintro e w104 ⟨rfl, hi, hb, hk⟩; refine ⟨_, rfl, ?_⟩; have n0_ := Aside0.mk (Kd.R_mono (Kd.R_keep (IsS81.apart (show IsS81 w0 _ g s0_0 t199 t200 from is81_ HI0.out) (ra_ HO195.out) (by decide)) hk (fun _ h => h.2)) (fun _ h => h.1)); have n1_ := Aside0.mk (KeepBut.trans (kb0_) hk (.inl rfl)); have n2_ := Aside0.mk (hb); have n3_ := Aside0.mk (hi); clear HO195; clear HK; clear HB; clear HI0; have HO195 := n0_; have HK := n1_; have HB := n2_; have HI0 := n3_; clear n0_ n1_ n2_ n3_; (try clear hb); (try clear hb2); (try clear hk); (try clear hi); obtain ⟨Ao105, co105, eo105⟩ := Kd.R_slice HO195.out; subst eo105) | ((with_reducible refine gate_callee (f := 61) rfl ?_); refine goesL_ (some 15) rfl rfl Tryd.func61 kr_ rfl #[.slice Ao105 t193.length co105, .int .i64 (wrap64 (t198 - 4)), .int .i64 (wrap64 (t201 - 4))] rfl ta_ ?_; (with_reducible refine (spec_l02Move.calls k _ _ t193 (wrap64 (t198 - 4)) (wrap64 (t201 - 4)) t204 _ ?side1 ?side2 A5.out).mono ?_); (case side1 => exact ca_ (Kd.R_reads' HO195.out).2.2); (case side2 => exact (Kd.R_reads' HO195.out).2.1); rintro e w106 ⟨v205, rfl, ho0, hb⟩; refine ⟨_, rfl, ?_⟩; have n0_ := Aside0.mk (Kd.R_elder' (ra_ HO195.out) (Kd.R_base ho0) hb); have n1_ := Aside0.mk (Kd.R_lower (Kd.R_new' ho0 (Kd.R_lt (ra_ HO195.out))) (keep_size (w := w) (g := g) (row := none) (kb0_))); have n2_ := Aside0.mk (IsS81.below (is81_ HI0.out) hb); have n3_ := Aside0.mk (KeepBut.trans (kb0_) (KeepBut.of_below hb g none) (.inl rfl)); have n4_ := Aside0.mk (below_step (by repeat (first | (with_reducible first | exact HB.out | apply below_alloc | apply pw_below_drewN | apply below_drew1 | refine below_set ?_ (IsS81.ge HI0.out)) | exact HB.out)) hb); clear HO195; clear HI0; clear HK; clear HB; have HO195 := n0_; have HO206 := n1_; have HI0 := n2_; have HK := n3_; have HB := n4_; clear n0_ n1_ n2_ n3_ n4_; (try clear hb); (try clear hb2); (try clear hk); (try clear hi); (try clear ho0); obtain ⟨Ao107, co107, eo107⟩ := Kd.R_slice HO206.out; subst eo107) | ((with_reducible refine gate_callee (f := 58) rfl ?_); refine goesL_ (some 19) rfl rfl Tryd.func58 kr_ rfl #[.pointer (some ⟨g, 0, none⟩), .int .i64 (t204.length : Int)] rfl ta_ ?_; (with_reducible refine (spec_l01Next.calls g s0_0 t202 t203 (t204.length : Int) t207 t208 t209 w0 _ ?side1 ?side2 A6.out).mono ?_); (case side1 => exact is81_ HI0.out); (case side2 => repeat (first | (with_reducible first | exact HB.out | apply below_alloc | apply pw_below_drewN | apply below_drew1 | refine below_set ?_ (IsS81.ge HI0.out)) | exact HB.out)); rintro e w108 ⟨rfl, hi, hb, hk⟩; refine ⟨_, rfl, ?_⟩; have n0_ := Aside0.mk (Kd.R_mono (Kd.R_keep (IsS81.apart (show IsS81 w0 _ g s0_0 t202 t203 from is81_ HI0.out) (ra_ HO195.out) (by decide)) hk (fun _ h => h.2)) (fun _ h => h.1)); have n1_ := Aside0.mk (Kd.R_mono (Kd.R_keep (IsS81.apart (show IsS81 w0 _ g s0_0 t202 t203 from is81_ HI0.out) (ra_ HO206.out) (by decide)) hk (fun _ h => h.2)) (fun _ h => h.1)); have n2_ := Aside0.mk (KeepBut.trans (kb0_) hk (.inl rfl)); have n3_ := Aside0.mk (hb); have n4_ := Aside0.mk (hi); clear HO195; clear HO206; clear HK; clear HB; clear HI0; have HO195 := n0_; have HO206 := n1_; have HK := n2_; have HB := n3_; have HI0 := n4_; clear n0_ n1_ n2_ n3_ n4_; (try clear hb); (try clear hb2); (try clear hk); (try clear hi)) | ((with_reducible refine gate_callee (f := 58) rfl ?_); refine goesL_ (some 21) rfl rfl Tryd.func58 kr_ rfl #[.pointer (some ⟨g, 0, none⟩), .int .i64 24] rfl ta_ ?_; (with_reducible refine (spec_l01Next.calls g s0_0 t208 t209 24 t210 t211 t212 w0 _ ?side1 ?side2 A7.out).mono ?_); (case side1 => exact is81_ HI0.out); (case side2 => repeat (first | (with_reducible first | exact HB.out | apply below_alloc | apply pw_below_drewN | apply below_drew1 | refine below_set ?_ (IsS81.ge HI0.out)) | exact HB.out)); rintro e w109 ⟨rfl, hi, hb, hk⟩; refine ⟨_, rfl, ?_⟩; have n0_ := Aside0.mk (Kd.R_mono (Kd.R_keep (IsS81.apart (show IsS81 w0 _ g s0_0 t208 t209 from is81_ HI0.out) (ra_ HO195.out) (by decide)) hk (fun _ h => h.2)) (fun _ h => h.1)); have n1_ := Aside0.mk (Kd.R_mono (Kd.R_keep (IsS81.apart (show IsS81 w0 _ g s0_0 t208 t209 from is81_ HI0.out) (ra_ HO206.out) (by decide)) hk (fun _ h => h.2)) (fun _ h => h.1)); have n2_ := Aside0.mk (KeepBut.trans (kb0_) hk (.inl rfl)); have n3_ := Aside0.mk (hb); have n4_ := Aside0.mk (hi); clear HO195; clear HO206; clear HK; clear HB; clear HI0; have HO195 := n0_; have HO206 := n1_; have HK := n2_; have HB := n3_; have HI0 := n4_; clear n0_ n1_ n2_ n3_ n4_; (try clear hb); (try clear hb2); (try clear hk); (try clear hi)))
       go_ret
       exact ⟨_, er_, by (with_reducible repeat (first | apply Kd.R_alloc | apply Kd.R_drewN | apply Kd.R_drew)); exact Kd.R_mono HO206.out (fun _ hk => trivial), is81_ HI0.out, by repeat (first | (with_reducible first | exact HB.out | apply below_alloc | apply pw_below_drewN | apply below_drew1 | refine below_set ?_ (IsS81.ge HI0.out)) | exact HB.out), kb0_⟩

end Go.Proofs.YtopceddgiddhlaaDoor.PFnMirrored
