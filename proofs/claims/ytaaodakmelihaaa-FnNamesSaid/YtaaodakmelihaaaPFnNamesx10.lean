/- Over the kit's printer by a driver of mine (hprint.py), with parts by hand: functions of the program as Lean functions, and that each call comes to exactly these answers. -/
import Derived.Test.YtaaodakmelihaaaPFnNamesx0
import Derived.Test.YtaaodakmelihaaaPFnNamesx6
import Derived.Test.YtaaodakmelihaaaPFnNamesx7
import Derived.Test.YtaaodakmelihaaaPFnNamesx9
namespace Go.Proofs.Ytaaodakmelihaaa.PFnNames
open Go.RowKit Go.Proofs.YtaaodakmelihaaaW.PrintWords Go.Proofs.YtaaodakmelihaaaW.PrintLast Go.Proofs.YtaaodakmelihaaaW.PrintMore
attribute [local go_sem] max2_int min2_int max_two min_two max_three min_three max_four min_four   -- for this text's walks alone
set_option linter.unusedVariables false
set_option linter.unusedSimpArgs false

/-! ### spec_l02Draw: function 30 -/
def spec_l02Draw.l0 : Nat → List (S49) → Int → List Int → Int → Int → Option ((List (S49)) × Int × Int)
 | 0, _, _, _, _, _ => none
 | k + 1, x5, x6, x1000, x1001, x1002 => (spec_l01Next.f x1000 x1001 x1002 2).bind fun bt313 => (if x6 < (wrap64 (40 + bt313.1)) then (if x5.length < 8796093022208 then (spec_l02Draw.l0 k (x5 ++ [(⟨x6, 0⟩ : S49)]) (wrap64 (x6 + 1)) x1000 bt313.2.1 bt313.2.2) else (none)) else (some (x5, bt313.2.1, bt313.2.2)))
def spec_l02Draw.f (k : Nat) (s0_0 : List Int) (s0_1 : Int) (s0_2 : Int) : Option ((List (S49)) × Int × Int) := (spec_l02DrawPoly.f k s0_0 s0_1 s0_2 8).bind fun bt275 => ((spec_l01Next.f s0_0 bt275.2.1 bt275.2.2 9).bind fun bt280 => ((spec_l01Next.f s0_0 bt280.2.1 bt280.2.2 9).bind fun bt283 => ((spec_l02Move.f k bt275.1 (wrap64 (bt280.1 - 4)) (wrap64 (bt283.1 - 4))).bind fun t286 => ((spec_l01Next.f s0_0 bt283.2.1 bt283.2.2 (t286.length : Int)).bind fun bt289 => ((spec_l01Next.f s0_0 bt289.2.1 bt289.2.2 24).bind fun bt292 => (if bt292.1 = 0 then ((some (([(-100), 100, 101] : List Int) : List Int)).bind fun y295 => ((spec_l01Next.f s0_0 bt292.2.1 bt292.2.2 3).bind fun bt298 => (if 0 ≤ bt298.1 then (if bt298.1 < (y295.length : Int) then (if 0 ≤ bt289.1 then (if bt289.1 < (t286.length : Int) then ((spec_l02Sort.f k (t286.set (bt289.1 : Int).toNat (⟨rd y295 bt298.1, (rd_T49 t286 bt289.1).f1⟩ : S49))).bind fun t303 => (some (t303, bt298.2.1, bt298.2.2))) else (none)) else (none)) else (none)) else (none)))) else (if bt292.1 = 1 then (if 0 ≤ bt289.1 then (if bt289.1 < (t286.length : Int) then (if t286.length < 8796093022208 then (some ((t286 ++ [(⟨(rd_T49 t286 bt289.1).f0, (rd_T49 t286 bt289.1).f1⟩ : S49)]), bt292.2.1, bt292.2.2)) else (none)) else (none)) else (none)) else (if bt292.1 = 2 then (some (([] : List (S49)), bt292.2.1, bt292.2.2)) else (if bt292.1 = 3 then (spec_l02Draw.l0 k (([] : List (S49))) 0 s0_0 bt292.2.1 bt292.2.2) else (if bt292.1 = 4 then (if 0 < (t286.length : Int) then (if 0 ≤ (wrap64 ((t286.length : Int) - 1)) then (if (wrap64 ((t286.length : Int) - 1)) < (t286.length : Int) then (if t286.length < 8796093022208 then (some ((t286 ++ [(⟨wrap64 (((rd_T49 t286 0).f0) + 3), wrap64 (((rd_T49 t286 (wrap64 ((t286.length : Int) - 1))).f1) + 2)⟩ : S49)]), bt292.2.1, bt292.2.2)) else (none)) else (none)) else (none)) else (none)) else (if bt292.1 = 5 then (if 0 < (t286.length : Int) then (if 0 ≤ (wrap64 ((t286.length : Int) - 1)) then (if (wrap64 ((t286.length : Int) - 1)) < (t286.length : Int) then (if t286.length < 8796093022208 then (some ((t286 ++ [(⟨wrap64 (((rd_T49 t286 0).f0) + 3), wrap64 (((rd_T49 t286 (wrap64 ((t286.length : Int) - 1))).f1) + 2)⟩ : S49)]), bt292.2.1, bt292.2.2)) else (none)) else (none)) else (none)) else (none)) else (some (t286, bt292.2.1, bt292.2.2)))))))))))))
theorem spec_l02Draw.mono_l : ∀ k, (∀ y0 y1 y2 y3 y4, LeO (spec_l02Draw.l0 k y0 y1 y2 y3 y4) (spec_l02Draw.l0 (k + 1) y0 y1 y2 y3 y4))
 | 0 => fun _ _ _ _ _ r h => by simp [spec_l02Draw.l0] at h
 | k + 1 => by
  have ih0 := spec_l02Draw.mono_l k
  ·intro y0 y1 y2 y3 y4
   unfold spec_l02Draw.l0
   repeat' first
   | (with_reducible exact ih0 _ _ _ _ _)
   | (with_reducible exact spec_l02DrawPoly.mono _ _ _ _ _)
   | (with_reducible exact spec_l02Move.mono _ _ _ _)
   | (with_reducible exact spec_l02Sort.mono _ _)
   | (with_reducible exact LeO.refl _)
   | (with_reducible exact LeO.none _)
   | (with_reducible refine LeO.ite ?_ ?_)
   | (with_reducible refine LeO.bind ?_ (fun _ => ?_))
   | exact ih0 _ _ _ _ _
   | exact spec_l02DrawPoly.mono _ _ _ _ _
   | exact spec_l02Move.mono _ _ _ _
   | exact spec_l02Sort.mono _ _
   | exact LeO.none _
   | refine LeO.ite ?_ ?_
   | refine LeO.bind ?_ (fun _ => ?_)
theorem spec_l02Draw.mono : ∀ a0 a1 a2 k, LeO (spec_l02Draw.f k a0 a1 a2) (spec_l02Draw.f (k + 1) a0 a1 a2) := by
 intro a0 a1 a2 k
 have ih0 := spec_l02Draw.mono_l k
 unfold spec_l02Draw.f
 repeat' first
   | (with_reducible exact ih0 _ _ _ _ _)
   | (with_reducible exact spec_l02DrawPoly.mono _ _ _ _ _)
   | (with_reducible exact spec_l02Move.mono _ _ _ _)
   | (with_reducible exact spec_l02Sort.mono _ _)
   | (with_reducible exact LeO.refl _)
   | (with_reducible exact LeO.none _)
   | (with_reducible refine LeO.ite ?_ ?_)
   | (with_reducible refine LeO.bind ?_ (fun _ => ?_))
   | exact ih0 _ _ _ _ _
   | exact spec_l02DrawPoly.mono _ _ _ _ _
   | exact spec_l02Move.mono _ _ _ _
   | exact spec_l02Sort.mono _ _
   | exact LeO.none _
   | refine LeO.ite ?_ ?_
   | refine LeO.bind ?_ (fun _ => ?_)
def spec_l02Draw.T20 : Bool × List (List Nat × List Nat) := (true, [([], []), ([], []), ([1], [1]), ([2], [2]), ([3], [3]), ([4], [4]), ([], []), ([], []), ([7], [7]), ([8], [8]), ([6, 9], [6, 9]), ([10], [10]), ([11], [11]), ([12], [12]), ([5, 13], [5, 13]), ([14], [14]), ([0, 15], [0, 15]), ([16, 16, 0, 1, 2, 3, 4, 5, 6, 7, 8, 9, 10, 11, 12, 13, 14, 15, 16], [16])])
def spec_l02Draw.B20 : List Nat := [0, 0, 2, 6, 14, 30, 0, 0, 128, 384, 960, 1984, 4032, 8128, 16382, 32766, 65535, 131071]
theorem spec_l02Draw.tab20 : rtab .any (opsOf Try.f30 20) = spec_l02Draw.T20 := by kernel_rfl
theorem spec_l02Draw.bits20 : waitsOk spec_l02Draw.T20.2 spec_l02Draw.B20 = true := by kernel_rfl
set_option maxHeartbeats 8000000 in
set_option maxRecDepth 100000 in
theorem spec_l02Draw.calls (k : Nat) (g : Nat) (s0_0 : List Int) (s0_1 : Int) (s0_2 : Int) (r1 : List (S49)) (r2 : Int) (r3 : Int) (w0 w : World) (hI : IsS62 w0 w g s0_0 s0_1 s0_2) (hB : Below w0.heap.size w0 w) (h : spec_l02Draw.f k s0_0 s0_1 s0_2 = some (r1, r2, r3)) :
  Calls Try.prog 30 #[.pointer (some ⟨g, 0, none⟩)] w fun e w' => ∃ v0_ : Value, e = .returned (v0_) ∧ Kd.R k49 49 w' w.heap.size (fun _ => True) v0_ r1 ∧ IsS62 w0 w' g s0_0 r2 r3 ∧ Below w0.heap.size w0 w' ∧ KeepBut w w' g none := by
 have hu49 := Try.underlying49
 have HI0 := Aside0.mk hI
 have HK := Aside0.mk (KeepBut.refl w g none)
 have HL := Aside0.mk hB.size
 clear hI
 have HW0 := Aside0.mk hB.size
 have HB := Aside0.mk hB
 clear hB
 have H : ((spec_l02DrawPoly.f k s0_0 s0_1 s0_2 8).bind fun bt275 => ((spec_l01Next.f s0_0 bt275.2.1 bt275.2.2 9).bind fun bt280 => ((spec_l01Next.f s0_0 bt280.2.1 bt280.2.2 9).bind fun bt283 => ((spec_l02Move.f k bt275.1 (wrap64 (bt280.1 - 4)) (wrap64 (bt283.1 - 4))).bind fun t286 => ((spec_l01Next.f s0_0 bt283.2.1 bt283.2.2 (t286.length : Int)).bind fun bt289 => ((spec_l01Next.f s0_0 bt289.2.1 bt289.2.2 24).bind fun bt292 => (if bt292.1 = 0 then ((some (([(-100), 100, 101] : List Int) : List Int)).bind fun y295 => ((spec_l01Next.f s0_0 bt292.2.1 bt292.2.2 3).bind fun bt298 => (if 0 ≤ bt298.1 then (if bt298.1 < (y295.length : Int) then (if 0 ≤ bt289.1 then (if bt289.1 < (t286.length : Int) then ((spec_l02Sort.f k (t286.set (bt289.1 : Int).toNat (⟨rd y295 bt298.1, (rd_T49 t286 bt289.1).f1⟩ : S49))).bind fun t303 => (some (t303, bt298.2.1, bt298.2.2))) else (none)) else (none)) else (none)) else (none)))) else (if bt292.1 = 1 then (if 0 ≤ bt289.1 then (if bt289.1 < (t286.length : Int) then (if t286.length < 8796093022208 then (some ((t286 ++ [(⟨(rd_T49 t286 bt289.1).f0, (rd_T49 t286 bt289.1).f1⟩ : S49)]), bt292.2.1, bt292.2.2)) else (none)) else (none)) else (none)) else (if bt292.1 = 2 then (some (([] : List (S49)), bt292.2.1, bt292.2.2)) else (if bt292.1 = 3 then (spec_l02Draw.l0 k (([] : List (S49))) 0 s0_0 bt292.2.1 bt292.2.2) else (if bt292.1 = 4 then (if 0 < (t286.length : Int) then (if 0 ≤ (wrap64 ((t286.length : Int) - 1)) then (if (wrap64 ((t286.length : Int) - 1)) < (t286.length : Int) then (if t286.length < 8796093022208 then (some ((t286 ++ [(⟨wrap64 (((rd_T49 t286 0).f0) + 3), wrap64 (((rd_T49 t286 (wrap64 ((t286.length : Int) - 1))).f1) + 2)⟩ : S49)]), bt292.2.1, bt292.2.2)) else (none)) else (none)) else (none)) else (none)) else (if bt292.1 = 5 then (if 0 < (t286.length : Int) then (if 0 ≤ (wrap64 ((t286.length : Int) - 1)) then (if (wrap64 ((t286.length : Int) - 1)) < (t286.length : Int) then (if t286.length < 8796093022208 then (some ((t286 ++ [(⟨wrap64 (((rd_T49 t286 0).f0) + 3), wrap64 (((rd_T49 t286 (wrap64 ((t286.length : Int) - 1))).f1) + 2)⟩ : S49)]), bt292.2.1, bt292.2.2)) else (none)) else (none)) else (none)) else (none)) else (some (t286, bt292.2.1, bt292.2.2)))))))))))))) = some (r1, r2, r3) := h
 clear h
 replace H := Option.bind_eq_some_iff.mp H
 obtain ⟨⟨t275, t278, t279⟩, A20, H⟩ := H
 replace H : ((spec_l01Next.f s0_0 t278 t279 9).bind fun bt280 => ((spec_l01Next.f s0_0 bt280.2.1 bt280.2.2 9).bind fun bt283 => ((spec_l02Move.f k t275 (wrap64 (bt280.1 - 4)) (wrap64 (bt283.1 - 4))).bind fun t286 => ((spec_l01Next.f s0_0 bt283.2.1 bt283.2.2 (t286.length : Int)).bind fun bt289 => ((spec_l01Next.f s0_0 bt289.2.1 bt289.2.2 24).bind fun bt292 => (if bt292.1 = 0 then ((some (([(-100), 100, 101] : List Int) : List Int)).bind fun y295 => ((spec_l01Next.f s0_0 bt292.2.1 bt292.2.2 3).bind fun bt298 => (if 0 ≤ bt298.1 then (if bt298.1 < (y295.length : Int) then (if 0 ≤ bt289.1 then (if bt289.1 < (t286.length : Int) then ((spec_l02Sort.f k (t286.set (bt289.1 : Int).toNat (⟨rd y295 bt298.1, (rd_T49 t286 bt289.1).f1⟩ : S49))).bind fun t303 => (some (t303, bt298.2.1, bt298.2.2))) else (none)) else (none)) else (none)) else (none)))) else (if bt292.1 = 1 then (if 0 ≤ bt289.1 then (if bt289.1 < (t286.length : Int) then (if t286.length < 8796093022208 then (some ((t286 ++ [(⟨(rd_T49 t286 bt289.1).f0, (rd_T49 t286 bt289.1).f1⟩ : S49)]), bt292.2.1, bt292.2.2)) else (none)) else (none)) else (none)) else (if bt292.1 = 2 then (some (([] : List (S49)), bt292.2.1, bt292.2.2)) else (if bt292.1 = 3 then (spec_l02Draw.l0 k (([] : List (S49))) 0 s0_0 bt292.2.1 bt292.2.2) else (if bt292.1 = 4 then (if 0 < (t286.length : Int) then (if 0 ≤ (wrap64 ((t286.length : Int) - 1)) then (if (wrap64 ((t286.length : Int) - 1)) < (t286.length : Int) then (if t286.length < 8796093022208 then (some ((t286 ++ [(⟨wrap64 (((rd_T49 t286 0).f0) + 3), wrap64 (((rd_T49 t286 (wrap64 ((t286.length : Int) - 1))).f1) + 2)⟩ : S49)]), bt292.2.1, bt292.2.2)) else (none)) else (none)) else (none)) else (none)) else (if bt292.1 = 5 then (if 0 < (t286.length : Int) then (if 0 ≤ (wrap64 ((t286.length : Int) - 1)) then (if (wrap64 ((t286.length : Int) - 1)) < (t286.length : Int) then (if t286.length < 8796093022208 then (some ((t286 ++ [(⟨wrap64 (((rd_T49 t286 0).f0) + 3), wrap64 (((rd_T49 t286 (wrap64 ((t286.length : Int) - 1))).f1) + 2)⟩ : S49)]), bt292.2.1, bt292.2.2)) else (none)) else (none)) else (none)) else (none)) else (some (t286, bt292.2.1, bt292.2.2))))))))))))) = some (r1, r2, r3) := H
 have A2 := Aside0.mk A20
 clear A20
 replace H := Option.bind_eq_some_iff.mp H
 obtain ⟨⟨t280, t281, t282⟩, A30, H⟩ := H
 replace H : ((spec_l01Next.f s0_0 t281 t282 9).bind fun bt283 => ((spec_l02Move.f k t275 (wrap64 (t280 - 4)) (wrap64 (bt283.1 - 4))).bind fun t286 => ((spec_l01Next.f s0_0 bt283.2.1 bt283.2.2 (t286.length : Int)).bind fun bt289 => ((spec_l01Next.f s0_0 bt289.2.1 bt289.2.2 24).bind fun bt292 => (if bt292.1 = 0 then ((some (([(-100), 100, 101] : List Int) : List Int)).bind fun y295 => ((spec_l01Next.f s0_0 bt292.2.1 bt292.2.2 3).bind fun bt298 => (if 0 ≤ bt298.1 then (if bt298.1 < (y295.length : Int) then (if 0 ≤ bt289.1 then (if bt289.1 < (t286.length : Int) then ((spec_l02Sort.f k (t286.set (bt289.1 : Int).toNat (⟨rd y295 bt298.1, (rd_T49 t286 bt289.1).f1⟩ : S49))).bind fun t303 => (some (t303, bt298.2.1, bt298.2.2))) else (none)) else (none)) else (none)) else (none)))) else (if bt292.1 = 1 then (if 0 ≤ bt289.1 then (if bt289.1 < (t286.length : Int) then (if t286.length < 8796093022208 then (some ((t286 ++ [(⟨(rd_T49 t286 bt289.1).f0, (rd_T49 t286 bt289.1).f1⟩ : S49)]), bt292.2.1, bt292.2.2)) else (none)) else (none)) else (none)) else (if bt292.1 = 2 then (some (([] : List (S49)), bt292.2.1, bt292.2.2)) else (if bt292.1 = 3 then (spec_l02Draw.l0 k (([] : List (S49))) 0 s0_0 bt292.2.1 bt292.2.2) else (if bt292.1 = 4 then (if 0 < (t286.length : Int) then (if 0 ≤ (wrap64 ((t286.length : Int) - 1)) then (if (wrap64 ((t286.length : Int) - 1)) < (t286.length : Int) then (if t286.length < 8796093022208 then (some ((t286 ++ [(⟨wrap64 (((rd_T49 t286 0).f0) + 3), wrap64 (((rd_T49 t286 (wrap64 ((t286.length : Int) - 1))).f1) + 2)⟩ : S49)]), bt292.2.1, bt292.2.2)) else (none)) else (none)) else (none)) else (none)) else (if bt292.1 = 5 then (if 0 < (t286.length : Int) then (if 0 ≤ (wrap64 ((t286.length : Int) - 1)) then (if (wrap64 ((t286.length : Int) - 1)) < (t286.length : Int) then (if t286.length < 8796093022208 then (some ((t286 ++ [(⟨wrap64 (((rd_T49 t286 0).f0) + 3), wrap64 (((rd_T49 t286 (wrap64 ((t286.length : Int) - 1))).f1) + 2)⟩ : S49)]), bt292.2.1, bt292.2.2)) else (none)) else (none)) else (none)) else (none)) else (some (t286, bt292.2.1, bt292.2.2)))))))))))) = some (r1, r2, r3) := H
 have A3 := Aside0.mk A30
 clear A30
 replace H := Option.bind_eq_some_iff.mp H
 obtain ⟨⟨t283, t284, t285⟩, A40, H⟩ := H
 replace H : ((spec_l02Move.f k t275 (wrap64 (t280 - 4)) (wrap64 (t283 - 4))).bind fun t286 => ((spec_l01Next.f s0_0 t284 t285 (t286.length : Int)).bind fun bt289 => ((spec_l01Next.f s0_0 bt289.2.1 bt289.2.2 24).bind fun bt292 => (if bt292.1 = 0 then ((some (([(-100), 100, 101] : List Int) : List Int)).bind fun y295 => ((spec_l01Next.f s0_0 bt292.2.1 bt292.2.2 3).bind fun bt298 => (if 0 ≤ bt298.1 then (if bt298.1 < (y295.length : Int) then (if 0 ≤ bt289.1 then (if bt289.1 < (t286.length : Int) then ((spec_l02Sort.f k (t286.set (bt289.1 : Int).toNat (⟨rd y295 bt298.1, (rd_T49 t286 bt289.1).f1⟩ : S49))).bind fun t303 => (some (t303, bt298.2.1, bt298.2.2))) else (none)) else (none)) else (none)) else (none)))) else (if bt292.1 = 1 then (if 0 ≤ bt289.1 then (if bt289.1 < (t286.length : Int) then (if t286.length < 8796093022208 then (some ((t286 ++ [(⟨(rd_T49 t286 bt289.1).f0, (rd_T49 t286 bt289.1).f1⟩ : S49)]), bt292.2.1, bt292.2.2)) else (none)) else (none)) else (none)) else (if bt292.1 = 2 then (some (([] : List (S49)), bt292.2.1, bt292.2.2)) else (if bt292.1 = 3 then (spec_l02Draw.l0 k (([] : List (S49))) 0 s0_0 bt292.2.1 bt292.2.2) else (if bt292.1 = 4 then (if 0 < (t286.length : Int) then (if 0 ≤ (wrap64 ((t286.length : Int) - 1)) then (if (wrap64 ((t286.length : Int) - 1)) < (t286.length : Int) then (if t286.length < 8796093022208 then (some ((t286 ++ [(⟨wrap64 (((rd_T49 t286 0).f0) + 3), wrap64 (((rd_T49 t286 (wrap64 ((t286.length : Int) - 1))).f1) + 2)⟩ : S49)]), bt292.2.1, bt292.2.2)) else (none)) else (none)) else (none)) else (none)) else (if bt292.1 = 5 then (if 0 < (t286.length : Int) then (if 0 ≤ (wrap64 ((t286.length : Int) - 1)) then (if (wrap64 ((t286.length : Int) - 1)) < (t286.length : Int) then (if t286.length < 8796093022208 then (some ((t286 ++ [(⟨wrap64 (((rd_T49 t286 0).f0) + 3), wrap64 (((rd_T49 t286 (wrap64 ((t286.length : Int) - 1))).f1) + 2)⟩ : S49)]), bt292.2.1, bt292.2.2)) else (none)) else (none)) else (none)) else (none)) else (some (t286, bt292.2.1, bt292.2.2))))))))))) = some (r1, r2, r3) := H
 have A4 := Aside0.mk A40
 clear A40
 replace H := Option.bind_eq_some_iff.mp H
 obtain ⟨t286, A50, H⟩ := H
 replace H : ((spec_l01Next.f s0_0 t284 t285 (t286.length : Int)).bind fun bt289 => ((spec_l01Next.f s0_0 bt289.2.1 bt289.2.2 24).bind fun bt292 => (if bt292.1 = 0 then ((some (([(-100), 100, 101] : List Int) : List Int)).bind fun y295 => ((spec_l01Next.f s0_0 bt292.2.1 bt292.2.2 3).bind fun bt298 => (if 0 ≤ bt298.1 then (if bt298.1 < (y295.length : Int) then (if 0 ≤ bt289.1 then (if bt289.1 < (t286.length : Int) then ((spec_l02Sort.f k (t286.set (bt289.1 : Int).toNat (⟨rd y295 bt298.1, (rd_T49 t286 bt289.1).f1⟩ : S49))).bind fun t303 => (some (t303, bt298.2.1, bt298.2.2))) else (none)) else (none)) else (none)) else (none)))) else (if bt292.1 = 1 then (if 0 ≤ bt289.1 then (if bt289.1 < (t286.length : Int) then (if t286.length < 8796093022208 then (some ((t286 ++ [(⟨(rd_T49 t286 bt289.1).f0, (rd_T49 t286 bt289.1).f1⟩ : S49)]), bt292.2.1, bt292.2.2)) else (none)) else (none)) else (none)) else (if bt292.1 = 2 then (some (([] : List (S49)), bt292.2.1, bt292.2.2)) else (if bt292.1 = 3 then (spec_l02Draw.l0 k (([] : List (S49))) 0 s0_0 bt292.2.1 bt292.2.2) else (if bt292.1 = 4 then (if 0 < (t286.length : Int) then (if 0 ≤ (wrap64 ((t286.length : Int) - 1)) then (if (wrap64 ((t286.length : Int) - 1)) < (t286.length : Int) then (if t286.length < 8796093022208 then (some ((t286 ++ [(⟨wrap64 (((rd_T49 t286 0).f0) + 3), wrap64 (((rd_T49 t286 (wrap64 ((t286.length : Int) - 1))).f1) + 2)⟩ : S49)]), bt292.2.1, bt292.2.2)) else (none)) else (none)) else (none)) else (none)) else (if bt292.1 = 5 then (if 0 < (t286.length : Int) then (if 0 ≤ (wrap64 ((t286.length : Int) - 1)) then (if (wrap64 ((t286.length : Int) - 1)) < (t286.length : Int) then (if t286.length < 8796093022208 then (some ((t286 ++ [(⟨wrap64 (((rd_T49 t286 0).f0) + 3), wrap64 (((rd_T49 t286 (wrap64 ((t286.length : Int) - 1))).f1) + 2)⟩ : S49)]), bt292.2.1, bt292.2.2)) else (none)) else (none)) else (none)) else (none)) else (some (t286, bt292.2.1, bt292.2.2)))))))))) = some (r1, r2, r3) := H
 have A5 := Aside0.mk A50
 clear A50
 replace H := Option.bind_eq_some_iff.mp H
 obtain ⟨⟨t289, t290, t291⟩, A60, H⟩ := H
 replace H : ((spec_l01Next.f s0_0 t290 t291 24).bind fun bt292 => (if bt292.1 = 0 then ((some (([(-100), 100, 101] : List Int) : List Int)).bind fun y295 => ((spec_l01Next.f s0_0 bt292.2.1 bt292.2.2 3).bind fun bt298 => (if 0 ≤ bt298.1 then (if bt298.1 < (y295.length : Int) then (if 0 ≤ t289 then (if t289 < (t286.length : Int) then ((spec_l02Sort.f k (t286.set (t289 : Int).toNat (⟨rd y295 bt298.1, (rd_T49 t286 t289).f1⟩ : S49))).bind fun t303 => (some (t303, bt298.2.1, bt298.2.2))) else (none)) else (none)) else (none)) else (none)))) else (if bt292.1 = 1 then (if 0 ≤ t289 then (if t289 < (t286.length : Int) then (if t286.length < 8796093022208 then (some ((t286 ++ [(⟨(rd_T49 t286 t289).f0, (rd_T49 t286 t289).f1⟩ : S49)]), bt292.2.1, bt292.2.2)) else (none)) else (none)) else (none)) else (if bt292.1 = 2 then (some (([] : List (S49)), bt292.2.1, bt292.2.2)) else (if bt292.1 = 3 then (spec_l02Draw.l0 k (([] : List (S49))) 0 s0_0 bt292.2.1 bt292.2.2) else (if bt292.1 = 4 then (if 0 < (t286.length : Int) then (if 0 ≤ (wrap64 ((t286.length : Int) - 1)) then (if (wrap64 ((t286.length : Int) - 1)) < (t286.length : Int) then (if t286.length < 8796093022208 then (some ((t286 ++ [(⟨wrap64 (((rd_T49 t286 0).f0) + 3), wrap64 (((rd_T49 t286 (wrap64 ((t286.length : Int) - 1))).f1) + 2)⟩ : S49)]), bt292.2.1, bt292.2.2)) else (none)) else (none)) else (none)) else (none)) else (if bt292.1 = 5 then (if 0 < (t286.length : Int) then (if 0 ≤ (wrap64 ((t286.length : Int) - 1)) then (if (wrap64 ((t286.length : Int) - 1)) < (t286.length : Int) then (if t286.length < 8796093022208 then (some ((t286 ++ [(⟨wrap64 (((rd_T49 t286 0).f0) + 3), wrap64 (((rd_T49 t286 (wrap64 ((t286.length : Int) - 1))).f1) + 2)⟩ : S49)]), bt292.2.1, bt292.2.2)) else (none)) else (none)) else (none)) else (none)) else (some (t286, bt292.2.1, bt292.2.2))))))))) = some (r1, r2, r3) := H
 have A6 := Aside0.mk A60
 clear A60
 replace H := Option.bind_eq_some_iff.mp H
 obtain ⟨⟨t292, t293, t294⟩, A70, H⟩ := H
 replace H : (if t292 = 0 then ((some (([(-100), 100, 101] : List Int) : List Int)).bind fun y295 => ((spec_l01Next.f s0_0 t293 t294 3).bind fun bt298 => (if 0 ≤ bt298.1 then (if bt298.1 < (y295.length : Int) then (if 0 ≤ t289 then (if t289 < (t286.length : Int) then ((spec_l02Sort.f k (t286.set (t289 : Int).toNat (⟨rd y295 bt298.1, (rd_T49 t286 t289).f1⟩ : S49))).bind fun t303 => (some (t303, bt298.2.1, bt298.2.2))) else (none)) else (none)) else (none)) else (none)))) else (if t292 = 1 then (if 0 ≤ t289 then (if t289 < (t286.length : Int) then (if t286.length < 8796093022208 then (some ((t286 ++ [(⟨(rd_T49 t286 t289).f0, (rd_T49 t286 t289).f1⟩ : S49)]), t293, t294)) else (none)) else (none)) else (none)) else (if t292 = 2 then (some (([] : List (S49)), t293, t294)) else (if t292 = 3 then (spec_l02Draw.l0 k (([] : List (S49))) 0 s0_0 t293 t294) else (if t292 = 4 then (if 0 < (t286.length : Int) then (if 0 ≤ (wrap64 ((t286.length : Int) - 1)) then (if (wrap64 ((t286.length : Int) - 1)) < (t286.length : Int) then (if t286.length < 8796093022208 then (some ((t286 ++ [(⟨wrap64 (((rd_T49 t286 0).f0) + 3), wrap64 (((rd_T49 t286 (wrap64 ((t286.length : Int) - 1))).f1) + 2)⟩ : S49)]), t293, t294)) else (none)) else (none)) else (none)) else (none)) else (if t292 = 5 then (if 0 < (t286.length : Int) then (if 0 ≤ (wrap64 ((t286.length : Int) - 1)) then (if (wrap64 ((t286.length : Int) - 1)) < (t286.length : Int) then (if t286.length < 8796093022208 then (some ((t286 ++ [(⟨wrap64 (((rd_T49 t286 0).f0) + 3), wrap64 (((rd_T49 t286 (wrap64 ((t286.length : Int) - 1))).f1) + 2)⟩ : S49)]), t293, t294)) else (none)) else (none)) else (none)) else (none)) else (some (t286, t293, t294)))))))) = some (r1, r2, r3) := H
 have A7 := Aside0.mk A70
 clear A70
 by_cases c8 : t292 = 0
 ·rw [if_pos c8] at H
  have c8b0 : (t292 == 0) = true := beq_iff_eq.mpr c8
  have c8b1 : (t292 != 0) = false := bne_eq_false_iff_eq.mpr c8
  clear c8
  obtain ⟨y295, hy295⟩ : ∃ y_ : List Int, y_ = (([(-100), 100, 101] : List Int)) := ⟨_, rfl⟩
  replace H : ((spec_l01Next.f s0_0 t293 t294 3).bind fun bt298 => (if 0 ≤ bt298.1 then (if bt298.1 < (y295.length : Int) then (if 0 ≤ t289 then (if t289 < (t286.length : Int) then ((spec_l02Sort.f k (t286.set (t289 : Int).toNat (⟨rd y295 bt298.1, (rd_T49 t286 t289).f1⟩ : S49))).bind fun t303 => (some (t303, bt298.2.1, bt298.2.2))) else (none)) else (none)) else (none)) else (none))) = some (r1, r2, r3) := by first | (rw [hy295]; with_reducible exact H) | (have H2_ := (Option.bind_some _ _).symm.trans H; rw [hy295]; with_reducible exact H2_) | (have H2_ := (Option.bind_some _ _).symm.trans H; with_reducible exact H2_) | with_reducible exact H | (rw [hy295]; exact H) | exact H
  have Ny295 := Aside0.mk hy295
  clear hy295
  replace H := Option.bind_eq_some_iff.mp H
  obtain ⟨⟨t298, t299, t300⟩, A90, H⟩ := H
  replace H : (if 0 ≤ t298 then (if t298 < (y295.length : Int) then (if 0 ≤ t289 then (if t289 < (t286.length : Int) then ((spec_l02Sort.f k (t286.set (t289 : Int).toNat (⟨rd y295 t298, (rd_T49 t286 t289).f1⟩ : S49))).bind fun t303 => (some (t303, t299, t300))) else (none)) else (none)) else (none)) else (none)) = some (r1, r2, r3) := H
  have A9 := Aside0.mk A90
  clear A90
  by_cases c10 : 0 ≤ t298
  ·rw [if_pos c10] at H
   have c10b0 : decide (0 ≤ t298) = true := decide_eq_true c10
   clear c10
   by_cases c11 : t298 < (y295.length : Int)
   ·rw [if_pos c11] at H
    have c11b0 : decide (t298 < (y295.length : Int)) = true := decide_eq_true c11
    clear c11
    by_cases c12 : 0 ≤ t289
    ·rw [if_pos c12] at H
     have c12b0 : decide (0 ≤ t289) = true := decide_eq_true c12
     clear c12
     by_cases c13 : t289 < (t286.length : Int)
     ·rw [if_pos c13] at H
      have c13b0 : decide (t289 < (t286.length : Int)) = true := decide_eq_true c13
      clear c13
      obtain ⟨y302, hy302⟩ : ∃ y_ : List (S49), y_ = (t286.set (t289 : Int).toNat (⟨rd y295 t298, (rd_T49 t286 t289).f1⟩ : S49)) := ⟨_, rfl⟩
      replace H : ((spec_l02Sort.f k y302).bind fun t303 => (some (t303, t299, t300))) = some (r1, r2, r3) := by first | (rw [hy302]; with_reducible exact H) | (have H2_ := (Option.bind_some _ _).symm.trans H; rw [hy302]; with_reducible exact H2_) | (have H2_ := (Option.bind_some _ _).symm.trans H; with_reducible exact H2_) | with_reducible exact H | (rw [hy302]; exact H) | exact H
      have Ny302 := Aside0.mk hy302
      clear hy302
      replace H := Option.bind_eq_some_iff.mp H
      obtain ⟨t303, A150, H⟩ := H
      replace H : (some (t303, t299, t300)) = some (r1, r2, r3) := H
      have A15 := Aside0.mk A150
      clear A150
      simp only [Option.some.injEq, Prod.mk.injEq] at H
      obtain ⟨rfl, rfl, rfl⟩ := H
      go_enter Try.func30, Try.ntmps30
      go_wp2_with (first | ((with_reducible refine gate_callee (f := 46) rfl ?_); refine goesL_ (some 8) rfl rfl Try.func46 kr_ rfl #[.pointer (some ⟨g, 0, none⟩), .int .i64 8] rfl ta_ ?_; (with_reducible refine (spec_l02DrawPoly.calls k g s0_0 s0_1 s0_2 8 t275 t278 t279 w0 _ ?side1 ?side2 A2.out).mono ?_); (case side1 => exact is62_ HI0.out); (case side2 => repeat (first | (with_reducible first | exact HB.out | apply below_alloc | apply pw_below_drewN | apply below_drew1 | refine below_set ?_ (IsS62.ge HI0.out)) | exact HB.out)); rintro e w16 ⟨v276, rfl, ho0, hi, hb, hk⟩; refine ⟨_, rfl, ?_⟩; have n0_ := Aside0.mk (Kd.R_lower ho0 (keep_size (w := w) (g := g) (row := none) (kb0_))); have n1_ := Aside0.mk (KeepBut.trans (kb0_) hk (.inl rfl)); have n2_ := Aside0.mk (hb); have n3_ := Aside0.mk (hi); clear HK; clear HB; clear HI0; have HO277 := n0_; have HK := n1_; have HB := n2_; have HI0 := n3_; clear n0_ n1_ n2_ n3_; (try clear hb); (try clear hb2); (try clear hk); (try clear hi); (try clear ho0)) | ((with_reducible refine gate_callee (f := 31) rfl ?_); refine goesL_ (some 10) rfl rfl Try.func31 kr_ rfl #[.pointer (some ⟨g, 0, none⟩), .int .i64 9] rfl ta_ ?_; (with_reducible refine (spec_l01Next.calls g s0_0 t278 t279 9 t280 t281 t282 w0 _ ?side1 ?side2 A3.out).mono ?_); (case side1 => exact is62_ HI0.out); (case side2 => repeat (first | (with_reducible first | exact HB.out | apply below_alloc | apply pw_below_drewN | apply below_drew1 | refine below_set ?_ (IsS62.ge HI0.out)) | exact HB.out)); rintro e w17 ⟨rfl, hi, hb, hk⟩; refine ⟨_, rfl, ?_⟩; have n0_ := Aside0.mk (Kd.R_mono (Kd.R_keep (IsS62.apart (show IsS62 w0 _ g s0_0 t278 t279 from is62_ HI0.out) (ra_ HO277.out) (by decide)) hk (fun _ h => h.2)) (fun _ h => h.1)); have n1_ := Aside0.mk (KeepBut.trans (kb0_) hk (.inl rfl)); have n2_ := Aside0.mk (hb); have n3_ := Aside0.mk (hi); clear HO277; clear HK; clear HB; clear HI0; have HO277 := n0_; have HK := n1_; have HB := n2_; have HI0 := n3_; clear n0_ n1_ n2_ n3_; (try clear hb); (try clear hb2); (try clear hk); (try clear hi)) | ((with_reducible refine gate_callee (f := 31) rfl ?_); refine goesL_ (some 13) rfl rfl Try.func31 kr_ rfl #[.pointer (some ⟨g, 0, none⟩), .int .i64 9] rfl ta_ ?_; (with_reducible refine (spec_l01Next.calls g s0_0 t281 t282 9 t283 t284 t285 w0 _ ?side1 ?side2 A4.out).mono ?_); (case side1 => exact is62_ HI0.out); (case side2 => repeat (first | (with_reducible first | exact HB.out | apply below_alloc | apply pw_below_drewN | apply below_drew1 | refine below_set ?_ (IsS62.ge HI0.out)) | exact HB.out)); rintro e w18 ⟨rfl, hi, hb, hk⟩; refine ⟨_, rfl, ?_⟩; have n0_ := Aside0.mk (Kd.R_mono (Kd.R_keep (IsS62.apart (show IsS62 w0 _ g s0_0 t281 t282 from is62_ HI0.out) (ra_ HO277.out) (by decide)) hk (fun _ h => h.2)) (fun _ h => h.1)); have n1_ := Aside0.mk (KeepBut.trans (kb0_) hk (.inl rfl)); have n2_ := Aside0.mk (hb); have n3_ := Aside0.mk (hi); clear HO277; clear HK; clear HB; clear HI0; have HO277 := n0_; have HK := n1_; have HB := n2_; have HI0 := n3_; clear n0_ n1_ n2_ n3_; (try clear hb); (try clear hb2); (try clear hk); (try clear hi); obtain ⟨Ao19, co19, eo19⟩ := Kd.R_slice HO277.out; subst eo19) | ((with_reducible refine gate_callee (f := 45) rfl ?_); refine goesL_ (some 15) rfl rfl Try.func45 kr_ rfl #[.slice Ao19 t275.length co19, .int .i64 (wrap64 (t280 - 4)), .int .i64 (wrap64 (t283 - 4))] rfl ta_ ?_; (with_reducible refine (spec_l02Move.calls k _ _ t275 (wrap64 (t280 - 4)) (wrap64 (t283 - 4)) t286 _ ?side1 ?side2 A5.out).mono ?_); (case side1 => exact ca_ (Kd.R_reads' HO277.out).2.2); (case side2 => exact (Kd.R_reads' HO277.out).2.1); rintro e w20 ⟨v287, rfl, ho0, hb⟩; refine ⟨_, rfl, ?_⟩; have n0_ := Aside0.mk (Kd.R_elder' (ra_ HO277.out) (Kd.R_base ho0) hb); have n1_ := Aside0.mk (Kd.R_lower (Kd.R_new' ho0 (Kd.R_lt (ra_ HO277.out))) (keep_size (w := w) (g := g) (row := none) (kb0_))); have n2_ := Aside0.mk (IsS62.below (is62_ HI0.out) hb); have n3_ := Aside0.mk (KeepBut.trans (kb0_) (KeepBut.of_below hb g none) (.inl rfl)); have n4_ := Aside0.mk (below_step (by repeat (first | (with_reducible first | exact HB.out | apply below_alloc | apply pw_below_drewN | apply below_drew1 | refine below_set ?_ (IsS62.ge HI0.out)) | exact HB.out)) hb); clear HO277; clear HI0; clear HK; clear HB; have HO277 := n0_; have HO288 := n1_; have HI0 := n2_; have HK := n3_; have HB := n4_; clear n0_ n1_ n2_ n3_ n4_; (try clear hb); (try clear hb2); (try clear hk); (try clear hi); (try clear ho0); obtain ⟨Ao21, co21, eo21⟩ := Kd.R_slice HO288.out; subst eo21) | ((with_reducible refine gate_callee (f := 31) rfl ?_); refine goesL_ (some 19) rfl rfl Try.func31 kr_ rfl #[.pointer (some ⟨g, 0, none⟩), .int .i64 (t286.length : Int)] rfl ta_ ?_; (with_reducible refine (spec_l01Next.calls g s0_0 t284 t285 (t286.length : Int) t289 t290 t291 w0 _ ?side1 ?side2 A6.out).mono ?_); (case side1 => exact is62_ HI0.out); (case side2 => repeat (first | (with_reducible first | exact HB.out | apply below_alloc | apply pw_below_drewN | apply below_drew1 | refine below_set ?_ (IsS62.ge HI0.out)) | exact HB.out)); rintro e w22 ⟨rfl, hi, hb, hk⟩; refine ⟨_, rfl, ?_⟩; have n0_ := Aside0.mk (Kd.R_mono (Kd.R_keep (IsS62.apart (show IsS62 w0 _ g s0_0 t284 t285 from is62_ HI0.out) (ra_ HO277.out) (by decide)) hk (fun _ h => h.2)) (fun _ h => h.1)); have n1_ := Aside0.mk (Kd.R_mono (Kd.R_keep (IsS62.apart (show IsS62 w0 _ g s0_0 t284 t285 from is62_ HI0.out) (ra_ HO288.out) (by decide)) hk (fun _ h => h.2)) (fun _ h => h.1)); have n2_ := Aside0.mk (KeepBut.trans (kb0_) hk (.inl rfl)); have n3_ := Aside0.mk (hb); have n4_ := Aside0.mk (hi); clear HO277; clear HO288; clear HK; clear HB; clear HI0; have HO277 := n0_; have HO288 := n1_; have HK := n2_; have HB := n3_; have HI0 := n4_; clear n0_ n1_ n2_ n3_ n4_; (try clear hb); (try clear hb2); (try clear hk); (try clear hi)) | ((with_reducible refine gate_callee (f := 31) rfl ?_); refine goesL_ (some 21) rfl rfl Try.func31 kr_ rfl #[.pointer (some ⟨g, 0, none⟩), .int .i64 24] rfl ta_ ?_; (with_reducible refine (spec_l01Next.calls g s0_0 t290 t291 24 t292 t293 t294 w0 _ ?side1 ?side2 A7.out).mono ?_); (case side1 => exact is62_ HI0.out); (case side2 => repeat (first | (with_reducible first | exact HB.out | apply below_alloc | apply pw_below_drewN | apply below_drew1 | refine below_set ?_ (IsS62.ge HI0.out)) | exact HB.out)); rintro e w23 ⟨rfl, hi, hb, hk⟩; refine ⟨_, rfl, ?_⟩; have n0_ := Aside0.mk (Kd.R_mono (Kd.R_keep (IsS62.apart (show IsS62 w0 _ g s0_0 t290 t291 from is62_ HI0.out) (ra_ HO277.out) (by decide)) hk (fun _ h => h.2)) (fun _ h => h.1)); have n1_ := Aside0.mk (Kd.R_mono (Kd.R_keep (IsS62.apart (show IsS62 w0 _ g s0_0 t290 t291 from is62_ HI0.out) (ra_ HO288.out) (by decide)) hk (fun _ h => h.2)) (fun _ h => h.1)); have n2_ := Aside0.mk (KeepBut.trans (kb0_) hk (.inl rfl)); have n3_ := Aside0.mk (hb); have n4_ := Aside0.mk (hi); clear HO277; clear HO288; clear HK; clear HB; clear HI0; have HO277 := n0_; have HO288 := n1_; have HK := n2_; have HB := n3_; have HI0 := n4_; clear n0_ n1_ n2_ n3_ n4_; (try clear hb); (try clear hb2); (try clear hk); (try clear hi)) | ((with_reducible refine gate_dst (N := 26) rfl ?_); refine Kd.R_lit (Kd.int .i64) _ 2 ?hg (N := 26) ?hd (xs := ([(-100), 100, 101] : List Int)) (inner := [.int .i64 (-100), .int .i64 100, .int .i64 101]) (ok := fun _ => True) (okp := fun _ => True) ?hr ?hp (fun _ hk => hk) trivial (Below.refl _ _) (Nat.le_refl _) (by simp) ?_; (case hd => rfl); (case hg => rfl); (case hr => first | (go_simp; done) | (go_simp; rfl)); (case hp => exact (Reps.one (show Kd.M (Kd.int .i64) _ _ _ (-100) [.int .i64 (-100)] from rfl) (Reps.one (show Kd.M (Kd.int .i64) _ _ _ 100 [.int .i64 100] from rfl) (Reps.one (show Kd.M (Kd.int .i64) _ _ _ 101 [.int .i64 101] from rfl) (Reps.none _ _))))); intro v296 w24 ho25 hb hg_ hnew_; clear hg_ hnew_; (first | rw [← Ny295.out] at ho25 | (simp only [Int.reduceToNat] at ho25; rw [← Ny295.out] at ho25)); have n0_ := Aside0.mk (Kd.R_below (ra_ HO277.out) hb); have n1_ := Aside0.mk (Kd.R_below (ra_ HO288.out) hb); have n2_ := Aside0.mk (Kd.R_lower ho25 (keep_size (w := w) (g := g) (row := none) (kb0_))); have n3_ := Aside0.mk (IsS62.below (is62_ HI0.out) hb); have n4_ := Aside0.mk (KeepBut.trans (kb0_) (KeepBut.of_below hb g none) (.inl rfl)); have n5_ := Aside0.mk (below_step (by repeat (first | (with_reducible first | exact HB.out | apply below_alloc | apply pw_below_drewN | apply below_drew1 | refine below_set ?_ (IsS62.ge HI0.out)) | exact HB.out)) hb); clear HO277; clear HO288; clear HI0; clear HK; clear HB; have HO277 := n0_; have HO288 := n1_; have HO297 := n2_; have HI0 := n3_; have HK := n4_; have HB := n5_; clear n0_ n1_ n2_ n3_ n4_ n5_; clear hb ho25) | ((with_reducible refine gate_callee (f := 31) rfl ?_); refine goesL_ (some 28) rfl rfl Try.func31 kr_ rfl #[.pointer (some ⟨g, 0, none⟩), .int .i64 3] rfl ta_ ?_; (with_reducible refine (spec_l01Next.calls g s0_0 t293 t294 3 t298 t299 t300 w0 _ ?side1 ?side2 A9.out).mono ?_); (case side1 => exact is62_ HI0.out); (case side2 => repeat (first | (with_reducible first | exact HB.out | apply below_alloc | apply pw_below_drewN | apply below_drew1 | refine below_set ?_ (IsS62.ge HI0.out)) | exact HB.out)); rintro e w26 ⟨rfl, hi, hb, hk⟩; refine ⟨_, rfl, ?_⟩; have n0_ := Aside0.mk (Kd.R_mono (Kd.R_keep (IsS62.apart (show IsS62 w0 _ g s0_0 t293 t294 from is62_ HI0.out) (ra_ HO277.out) (by decide)) hk (fun _ h => h.2)) (fun _ h => h.1)); have n1_ := Aside0.mk (Kd.R_mono (Kd.R_keep (IsS62.apart (show IsS62 w0 _ g s0_0 t293 t294 from is62_ HI0.out) (ra_ HO288.out) (by decide)) hk (fun _ h => h.2)) (fun _ h => h.1)); have n2_ := Aside0.mk (Kd.R_mono (Kd.R_keep (IsS62.apart (show IsS62 w0 _ g s0_0 t293 t294 from is62_ HI0.out) (ra_ HO297.out) (by decide)) hk (fun _ h => h.2)) (fun _ h => h.1)); have n3_ := Aside0.mk (KeepBut.trans (kb0_) hk (.inl rfl)); have n4_ := Aside0.mk (hb); have n5_ := Aside0.mk (hi); clear HO277; clear HO288; clear HO297; clear HK; clear HB; clear HI0; have HO277 := n0_; have HO288 := n1_; have HO297 := n2_; have HK := n3_; have HB := n4_; have HI0 := n5_; clear n0_ n1_ n2_ n3_ n4_ n5_; (try clear hb); (try clear hb2); (try clear hk); (try clear hi); obtain ⟨Ao27, co27, eo27⟩ := Kd.R_slice HO297.out; subst eo27; have p301 : 0 ≤ (t298 : Int) := od_; have q301 : t298 < (y295.length : Int) := od_; obtain ⟨ad301, e301, hx301_0⟩ := Kd.at_int (Kd.R_reads' HO297.out).2.2 t298 p301 q301; cases e301; replace p301 := eq_true p301; replace q301 := eq_true q301; have p14 : 0 ≤ (t289 : Int) := od_; have q14 : (t289 : Int) < ((t286.length : Int) : Int) := od_; obtain ⟨go14, co14, eo14, gb14, gl14, cl14, HG14⟩ := Kd.R_form HO288.out (by omega); (first | cases eo14 | (injection eo14 with ea_ en_ ec_; (first | subst ea_ | (injection ea_ with ea_; subst ea_)); subst ec_; clear en_)); have GB14 := Aside0.mk gb14; have GG14 := Aside0.mk HG14; clear gb14 gl14 HG14; obtain ⟨ce14, hcl14, hM14, hcc14, hfr14⟩ := Kd.R_elem HO288.out z49 (t289 : Int) p14 q14; obtain rfl := k49_openM hM14; have hx14_0 : w26.cell? ⟨go14, (t289 : Int).toNat * 2, none⟩ = some (.int .i64 ((rd_T49 t286 t289).f0)) := hcc14 0 _ rfl; have hx14_1 : w26.cell? ⟨go14, (t289 : Int).toNat * 2 + 1, none⟩ = some (.int .i64 ((rd_T49 t286 t289).f1)) := hcc14 1 _ rfl; have hf14_0 : w26.frozen? ⟨go14, (t289 : Int).toNat * 2, none⟩ = false := hfr14 0; have hf14_1 : w26.frozen? ⟨go14, (t289 : Int).toNat * 2 + 1, none⟩ = false := hfr14 1; clear hcl14 hcc14 hfr14 hM14; replace p14 := eq_true p14; replace q14 := eq_true q14; have n_ := Aside0.mk (Kd.R_mono (ok' := (fun k_ => some k_ ≠ (.slice Ao19 t275.length co19 : Value).ownBlock)) HO288.out (fun k_ hk => hk.2)); clear HO288; have HO288 := n_; clear n_; have HX28 := Aside0.mk (show Kd.R k49 49 w26 w.heap.size (fun k_ => some k_ ≠ (.slice Ao19 t275.length co19 : Value).ownBlock) (.slice (some ⟨go14, 0, none⟩) t286.length co21) t286 from (ra_ HO288.out)); obtain ⟨ce28, hcl28, hM28, hcc28, hfr28⟩ := Kd.R_elem HX28.out z49 (t289 : Int) (od_) (by have h_ : (t289 : Int) < ((t286.length : Int) : Int) := od_; first | exact h_ | (have e_ := (Kd.R_reads' HO288.out).1; omega) | simpa using h_); obtain rfl := k49_openM hM28; have HP28 := Kd.R_seg HX28.out (t289 : Int) (od_) (by have h_ : (t289 : Int) < ((t286.length : Int) : Int) := od_; first | exact h_ | (have e_ := (Kd.R_reads' HO288.out).1; omega) | simpa using h_) (seg := [.int .i64 (rd y295 t298)]) (j := 0) hcl28 hcc28 (show 1 ≤ 2 from by decide) (x' := (⟨rd y295 t298, (rd_T49 t286 t289).f1⟩ : S49)) (k49_mkM _ _ _ (⟨rd y295 t298, (rd_T49 t286 t289).f1⟩ : S49) ) (fun _ hk => hk); have hx28_0 := hcc28 0 _ rfl; (try simp only [show (k49).sz = 2 from rfl, Nat.mul_one, Nat.add_zero] at hx28_0); have hf28_0 := hfr28 0; (try simp only [show (k49).sz = 2 from rfl, Nat.mul_one, Nat.add_zero] at hf28_0); clear hcl28 hcc28 hfr28 hM28) | ((with_reducible refine gate_store (t := 2) (p := 32) rfl ?_); refine store_event (t := 2) (p := 32) (v := ?vo_w29) (w1 := (w26.setCell ⟨go14, (t289 : Int).toNat * 2, none⟩ (.int .i64 (rd y295 t298)))) ?hg ?ho ?hn ?hr ?_; (case ho => rfl); (case hg => rfl); (case hn => rfl); (case hr => first | (go_simp; done) | (go_simp; rfl)); intro w29 hw; have hg : w26.grownBy w29 (some go14) := (by rw [hw]; exact HP28.2); have hp_ : Kd.R k49 49 w29 w.heap.size (fun k_ => some k_ ≠ (.slice Ao19 t275.length co19 : Value).ownBlock) (.slice (some ⟨go14, 0, none⟩) t286.length co21) y302 := (by rw [hw, Ny302.out]; exact HP28.1); clear HP28; have n0_ := Aside0.mk (IsS62.grown (is62_ HI0.out) hg (IsS62.own_ne HI0.out HO288.out (by decide))); have n1_ := Aside0.mk (Kd.R_after (v := (.slice (some ⟨go14, 0, none⟩) t286.length co21)) (v1 := (.slice (some ⟨go14, 0, none⟩) t286.length co21)) (ok := (fun _ => True)) (ra_ HO277.out) hg (.inl rfl)); have n2_ := Aside0.mk (hp_); have n3_ := Aside0.mk (Kd.R_over' (v := (.slice (some ⟨go14, 0, none⟩) t286.length co21)) (ra_ HO297.out) (Kd.R_typed HO288.out) (by decide) hg); have n4_ := Aside0.mk ((by rw [hw]; exact below_set (HB.out) (Nat.le_trans HL.out GB14.out) : Below w0.heap.size w0 w29)); have n5_ := Aside0.mk (KeepBut.trans (kb0_) (KeepBut.of_grown hg g) (Kd.R_base2 HO288.out)); clear HI0; clear HO277; clear HO288; clear HO297; clear HB; clear HK; have HI0 := n0_; have HO277 := n1_; have HO288 := n2_; have HO297 := n3_; have HB := n4_; have HK := n5_; clear n0_ n1_ n2_ n3_ n4_ n5_; clear hg hw hp_) | ((with_reducible refine gate_callee (f := 47) rfl ?_); refine goesL_ (some 34) rfl rfl Try.func47 kr_ rfl #[.slice (some ⟨go14, 0, none⟩) y302.length co21] rfl (by (try simp only [List.map_toArray, List.map_cons, List.map_nil]); first | done | (rw [show y302.length = t286.length from (Kd.R_reads' HO288.out).1.symm] <;> rfl) | rfl | (simp only [List.length_drop, List.length_take]; rfl)) ?_; (with_reducible refine (spec_l02Sort.calls k _ _ y302 t303 _ ?side1 ?side2 A15.out).mono ?_); (case side1 => exact ca_ (Kd.R_reads' HO288.out).2.2); (case side2 => rw [show y302.length = t286.length from (Kd.R_reads' HO288.out).1.symm]; exact (Kd.R_reads' HO288.out).2.1); rintro e w30 ⟨v304, rfl, ho0, hb⟩; refine ⟨_, rfl, ?_⟩; have n0_ := Aside0.mk (Kd.R_elder' (ra_ HO277.out) (Kd.R_base ho0) hb); have n1_ := Aside0.mk (Kd.R_elder' (ra_ HO288.out) (Kd.R_base ho0) hb); have n2_ := Aside0.mk (Kd.R_below (ra_ HO297.out) hb); have n3_ := Aside0.mk (Kd.R_lower (Kd.R_new' (Kd.R_new' ho0 (Kd.R_lt (ra_ HO277.out))) (Kd.R_lt (ra_ HO288.out))) (keep_size (w := w) (g := g) (row := none) (kb0_))); have n4_ := Aside0.mk (IsS62.below (is62_ HI0.out) hb); have n5_ := Aside0.mk (KeepBut.trans (kb0_) (KeepBut.of_below hb g none) (.inl rfl)); have n6_ := Aside0.mk (below_step (by repeat (first | (with_reducible first | exact HB.out | apply below_alloc | apply pw_below_drewN | apply below_drew1 | refine below_set ?_ (IsS62.ge HI0.out)) | exact HB.out)) hb); clear HO277; clear HO288; clear HO297; clear HI0; clear HK; clear HB; have HO277 := n0_; have HO288 := n1_; have HO297 := n2_; have HO305 := n3_; have HI0 := n4_; have HK := n5_; have HB := n6_; clear n0_ n1_ n2_ n3_ n4_ n5_ n6_; (try clear hb); (try clear hb2); (try clear hk); (try clear hi); (try clear ho0)))
      go_ret
      exact ⟨_, er_, by (with_reducible repeat (first | apply Kd.R_alloc | apply Kd.R_drewN | apply Kd.R_drew)); exact Kd.R_mono HO305.out (fun _ hk => trivial), is62_ HI0.out, by repeat (first | (with_reducible first | exact HB.out | apply below_alloc | apply pw_below_drewN | apply below_drew1 | refine below_set ?_ (IsS62.ge HI0.out)) | exact HB.out), kb0_⟩
     ·rw [if_neg c13] at H
      exact absurd H (by simp)
    ·rw [if_neg c12] at H
     exact absurd H (by simp)
   ·rw [if_neg c11] at H
    exact absurd H (by simp)
  ·rw [if_neg c10] at H
   exact absurd H (by simp)
 ·rw [if_neg c8] at H
  have c8b0 : (t292 == 0) = false := beq_eq_false_iff_ne.mpr c8
  have c8b1 : (t292 != 0) = true := bne_iff_ne.mpr c8
  by_cases c31 : t292 = 1
  ·rw [if_pos c31] at H
   have c31b0 : (t292 == 1) = true := beq_iff_eq.mpr c31
   have c31b1 : (t292 != 1) = false := bne_eq_false_iff_eq.mpr c31
   clear c31
   by_cases c32 : 0 ≤ t289
   ·rw [if_pos c32] at H
    have c32b0 : decide (0 ≤ t289) = true := decide_eq_true c32
    clear c32
    by_cases c33 : t289 < (t286.length : Int)
    ·rw [if_pos c33] at H
     have c33b0 : decide (t289 < (t286.length : Int)) = true := decide_eq_true c33
     clear c33
     by_cases c34 : t286.length < 8796093022208
     ·rw [if_pos c34] at H
      have LMc34 := Aside0.mk c34
      clear c34
      obtain ⟨y307, hy307⟩ : ∃ y_ : List (S49), y_ = (t286 ++ [(⟨(rd_T49 t286 t289).f0, (rd_T49 t286 t289).f1⟩ : S49)]) := ⟨_, rfl⟩
      replace H : (some (y307, t293, t294)) = some (r1, r2, r3) := by first | (rw [hy307]; with_reducible exact H) | (have H2_ := (Option.bind_some _ _).symm.trans H; rw [hy307]; with_reducible exact H2_) | (have H2_ := (Option.bind_some _ _).symm.trans H; with_reducible exact H2_) | with_reducible exact H | (rw [hy307]; exact H) | exact H
      have Ny307 := Aside0.mk hy307
      clear hy307
      simp only [Option.some.injEq, Prod.mk.injEq] at H
      obtain ⟨rfl, rfl, rfl⟩ := H
      go_enter Try.func30, Try.ntmps30
      go_wp2_with (first | ((with_reducible refine gate_callee (f := 46) rfl ?_); refine goesL_ (some 8) rfl rfl Try.func46 kr_ rfl #[.pointer (some ⟨g, 0, none⟩), .int .i64 8] rfl ta_ ?_; (with_reducible refine (spec_l02DrawPoly.calls k g s0_0 s0_1 s0_2 8 t275 t278 t279 w0 _ ?side1 ?side2 A2.out).mono ?_); (case side1 => exact is62_ HI0.out); (case side2 => repeat (first | (with_reducible first | exact HB.out | apply below_alloc | apply pw_below_drewN | apply below_drew1 | refine below_set ?_ (IsS62.ge HI0.out)) | exact HB.out)); rintro e w35 ⟨v276, rfl, ho0, hi, hb, hk⟩; refine ⟨_, rfl, ?_⟩; have n0_ := Aside0.mk (Kd.R_lower ho0 (keep_size (w := w) (g := g) (row := none) (kb0_))); have n1_ := Aside0.mk (KeepBut.trans (kb0_) hk (.inl rfl)); have n2_ := Aside0.mk (hb); have n3_ := Aside0.mk (hi); clear HK; clear HB; clear HI0; have HO277 := n0_; have HK := n1_; have HB := n2_; have HI0 := n3_; clear n0_ n1_ n2_ n3_; (try clear hb); (try clear hb2); (try clear hk); (try clear hi); (try clear ho0)) | ((with_reducible refine gate_callee (f := 31) rfl ?_); refine goesL_ (some 10) rfl rfl Try.func31 kr_ rfl #[.pointer (some ⟨g, 0, none⟩), .int .i64 9] rfl ta_ ?_; (with_reducible refine (spec_l01Next.calls g s0_0 t278 t279 9 t280 t281 t282 w0 _ ?side1 ?side2 A3.out).mono ?_); (case side1 => exact is62_ HI0.out); (case side2 => repeat (first | (with_reducible first | exact HB.out | apply below_alloc | apply pw_below_drewN | apply below_drew1 | refine below_set ?_ (IsS62.ge HI0.out)) | exact HB.out)); rintro e w36 ⟨rfl, hi, hb, hk⟩; refine ⟨_, rfl, ?_⟩; have n0_ := Aside0.mk (Kd.R_mono (Kd.R_keep (IsS62.apart (show IsS62 w0 _ g s0_0 t278 t279 from is62_ HI0.out) (ra_ HO277.out) (by decide)) hk (fun _ h => h.2)) (fun _ h => h.1)); have n1_ := Aside0.mk (KeepBut.trans (kb0_) hk (.inl rfl)); have n2_ := Aside0.mk (hb); have n3_ := Aside0.mk (hi); clear HO277; clear HK; clear HB; clear HI0; have HO277 := n0_; have HK := n1_; have HB := n2_; have HI0 := n3_; clear n0_ n1_ n2_ n3_; (try clear hb); (try clear hb2); (try clear hk); (try clear hi)) | ((with_reducible refine gate_callee (f := 31) rfl ?_); refine goesL_ (some 13) rfl rfl Try.func31 kr_ rfl #[.pointer (some ⟨g, 0, none⟩), .int .i64 9] rfl ta_ ?_; (with_reducible refine (spec_l01Next.calls g s0_0 t281 t282 9 t283 t284 t285 w0 _ ?side1 ?side2 A4.out).mono ?_); (case side1 => exact is62_ HI0.out); (case side2 => repeat (first | (with_reducible first | exact HB.out | apply below_alloc | apply pw_below_drewN | apply below_drew1 | refine below_set ?_ (IsS62.ge HI0.out)) | exact HB.out)); rintro e w37 ⟨rfl, hi, hb, hk⟩; refine ⟨_, rfl, ?_⟩; have n0_ := Aside0.mk (Kd.R_mono (Kd.R_keep (IsS62.apart (show IsS62 w0 _ g s0_0 t281 t282 from is62_ HI0.out) (ra_ HO277.out) (by decide)) hk (fun _ h => h.2)) (fun _ h => h.1)); have n1_ := Aside0.mk (KeepBut.trans (kb0_) hk (.inl rfl)); have n2_ := Aside0.mk (hb); have n3_ := Aside0.mk (hi); clear HO277; clear HK; clear HB; clear HI0; have HO277 := n0_; have HK := n1_; have HB := n2_; have HI0 := n3_; clear n0_ n1_ n2_ n3_; (try clear hb); (try clear hb2); (try clear hk); (try clear hi); obtain ⟨Ao38, co38, eo38⟩ := Kd.R_slice HO277.out; subst eo38) | ((with_reducible refine gate_callee (f := 45) rfl ?_); refine goesL_ (some 15) rfl rfl Try.func45 kr_ rfl #[.slice Ao38 t275.length co38, .int .i64 (wrap64 (t280 - 4)), .int .i64 (wrap64 (t283 - 4))] rfl ta_ ?_; (with_reducible refine (spec_l02Move.calls k _ _ t275 (wrap64 (t280 - 4)) (wrap64 (t283 - 4)) t286 _ ?side1 ?side2 A5.out).mono ?_); (case side1 => exact ca_ (Kd.R_reads' HO277.out).2.2); (case side2 => exact (Kd.R_reads' HO277.out).2.1); rintro e w39 ⟨v287, rfl, ho0, hb⟩; refine ⟨_, rfl, ?_⟩; have n0_ := Aside0.mk (Kd.R_elder' (ra_ HO277.out) (Kd.R_base ho0) hb); have n1_ := Aside0.mk (Kd.R_lower (Kd.R_new' ho0 (Kd.R_lt (ra_ HO277.out))) (keep_size (w := w) (g := g) (row := none) (kb0_))); have n2_ := Aside0.mk (IsS62.below (is62_ HI0.out) hb); have n3_ := Aside0.mk (KeepBut.trans (kb0_) (KeepBut.of_below hb g none) (.inl rfl)); have n4_ := Aside0.mk (below_step (by repeat (first | (with_reducible first | exact HB.out | apply below_alloc | apply pw_below_drewN | apply below_drew1 | refine below_set ?_ (IsS62.ge HI0.out)) | exact HB.out)) hb); clear HO277; clear HI0; clear HK; clear HB; have HO277 := n0_; have HO288 := n1_; have HI0 := n2_; have HK := n3_; have HB := n4_; clear n0_ n1_ n2_ n3_ n4_; (try clear hb); (try clear hb2); (try clear hk); (try clear hi); (try clear ho0); obtain ⟨Ao40, co40, eo40⟩ := Kd.R_slice HO288.out; subst eo40) | ((with_reducible refine gate_callee (f := 31) rfl ?_); refine goesL_ (some 19) rfl rfl Try.func31 kr_ rfl #[.pointer (some ⟨g, 0, none⟩), .int .i64 (t286.length : Int)] rfl ta_ ?_; (with_reducible refine (spec_l01Next.calls g s0_0 t284 t285 (t286.length : Int) t289 t290 t291 w0 _ ?side1 ?side2 A6.out).mono ?_); (case side1 => exact is62_ HI0.out); (case side2 => repeat (first | (with_reducible first | exact HB.out | apply below_alloc | apply pw_below_drewN | apply below_drew1 | refine below_set ?_ (IsS62.ge HI0.out)) | exact HB.out)); rintro e w41 ⟨rfl, hi, hb, hk⟩; refine ⟨_, rfl, ?_⟩; have n0_ := Aside0.mk (Kd.R_mono (Kd.R_keep (IsS62.apart (show IsS62 w0 _ g s0_0 t284 t285 from is62_ HI0.out) (ra_ HO277.out) (by decide)) hk (fun _ h => h.2)) (fun _ h => h.1)); have n1_ := Aside0.mk (Kd.R_mono (Kd.R_keep (IsS62.apart (show IsS62 w0 _ g s0_0 t284 t285 from is62_ HI0.out) (ra_ HO288.out) (by decide)) hk (fun _ h => h.2)) (fun _ h => h.1)); have n2_ := Aside0.mk (KeepBut.trans (kb0_) hk (.inl rfl)); have n3_ := Aside0.mk (hb); have n4_ := Aside0.mk (hi); clear HO277; clear HO288; clear HK; clear HB; clear HI0; have HO277 := n0_; have HO288 := n1_; have HK := n2_; have HB := n3_; have HI0 := n4_; clear n0_ n1_ n2_ n3_ n4_; (try clear hb); (try clear hb2); (try clear hk); (try clear hi)) | ((with_reducible refine gate_callee (f := 31) rfl ?_); refine goesL_ (some 21) rfl rfl Try.func31 kr_ rfl #[.pointer (some ⟨g, 0, none⟩), .int .i64 24] rfl ta_ ?_; (with_reducible refine (spec_l01Next.calls g s0_0 t290 t291 24 t292 t293 t294 w0 _ ?side1 ?side2 A7.out).mono ?_); (case side1 => exact is62_ HI0.out); (case side2 => repeat (first | (with_reducible first | exact HB.out | apply below_alloc | apply pw_below_drewN | apply below_drew1 | refine below_set ?_ (IsS62.ge HI0.out)) | exact HB.out)); rintro e w42 ⟨rfl, hi, hb, hk⟩; refine ⟨_, rfl, ?_⟩; have n0_ := Aside0.mk (Kd.R_mono (Kd.R_keep (IsS62.apart (show IsS62 w0 _ g s0_0 t290 t291 from is62_ HI0.out) (ra_ HO277.out) (by decide)) hk (fun _ h => h.2)) (fun _ h => h.1)); have n1_ := Aside0.mk (Kd.R_mono (Kd.R_keep (IsS62.apart (show IsS62 w0 _ g s0_0 t290 t291 from is62_ HI0.out) (ra_ HO288.out) (by decide)) hk (fun _ h => h.2)) (fun _ h => h.1)); have n2_ := Aside0.mk (KeepBut.trans (kb0_) hk (.inl rfl)); have n3_ := Aside0.mk (hb); have n4_ := Aside0.mk (hi); clear HO277; clear HO288; clear HK; clear HB; clear HI0; have HO277 := n0_; have HO288 := n1_; have HK := n2_; have HB := n3_; have HI0 := n4_; clear n0_ n1_ n2_ n3_ n4_; (try clear hb); (try clear hb2); (try clear hk); (try clear hi); have p306 : 0 ≤ (t289 : Int) := od_; have q306 : t289 < (t286.length : Int) := od_; obtain ⟨ad306, e306, hx306_0, hx306_1⟩ := at_T49 (Kd.R_reads' HO288.out).2.2 t289 p306 q306; cases e306; replace p306 := eq_true p306; replace q306 := eq_true q306) | ((with_reducible refine gate_builtin (b := .append) (xs := #[.tmp 37, .tmp 42]) rfl ?_); at_builtin; refine Kd.R_append k49 w.heap.size rfl (.tmp 37) (.tmp 42) 24 49 (.agg #[(.int .i64 0), (.int .i64 0)]) 16 rfl Try.underlying24 info49 rfl (by decide) (by omega) (.slice (some ad306) t286.length co40) t286 (⟨(rd_T49 t286 t289).f0, (rd_T49 t286 t289).f1⟩ : S49) [.int .i64 ((rd_T49 t286 t289).f0), .int .i64 ((rd_T49 t286 t289).f1)] (fun k_ => some k_ ≠ (.slice Ao38 t275.length co38 : Value).ownBlock) (fun _ => False) rfl rfl ?aP (fun _ hk => hk.elim) ?aF ?aO (Below.refl _ _) ?aS ?aL ?_; (case aP => exact k49_mkM _ _ _ (⟨(rd_T49 t286 t289).f0, (rd_T49 t286 t289).f1⟩ : S49)); (case aF => exact (fun k_ hk => Kd.fresh' (Kd.R_lt (ra_ HO277.out)) k_ hk)); (case aO => exact (by (with_reducible repeat (first | apply Kd.R_alloc | apply Kd.R_drewN | apply Kd.R_drew)); exact Kd.R_mono HO288.out (fun _ hk => hk.2))); (case aS => exact (keep_size (w := w) (g := g) (row := none) (kb0_))); (case aL => have := LMc34.out; omega); intro v308 w43 ho hb hg hat; rw [← Ny307.out] at ho; have n0_ := Aside0.mk (IsS62.grown (is62_ HI0.out) hg (IsS62.own_ne HI0.out HO288.out (by decide))); have n1_ := Aside0.mk (Kd.R_after (ok := (fun _ => True)) (ra_ HO277.out) hg hat); have n2_ := Aside0.mk (below_weaken (by repeat (first | (with_reducible first | exact HB.out | apply below_alloc | apply pw_below_drewN | apply below_drew1 | refine below_set ?_ (IsS62.ge HI0.out)) | exact HB.out)) HL.out hb); have n3_ := Aside0.mk (KeepBut.trans (kb0_) (KeepBut.of_grown hg g) (Kd.R_base2 HO288.out)); have n4_ := Aside0.mk (ho); clear HI0; clear HO277; clear HB; clear HK; clear HO288; have HI0 := n0_; have HO277 := n1_; have HB := n2_; have HK := n3_; have HO309 := n4_; clear n0_ n1_ n2_ n3_ n4_; clear ho hb hg hat))
      go_ret
      exact ⟨_, er_, by (with_reducible repeat (first | apply Kd.R_alloc | apply Kd.R_drewN | apply Kd.R_drew)); exact Kd.R_mono HO309.out (fun _ hk => trivial), is62_ HI0.out, by repeat (first | (with_reducible first | exact HB.out | apply below_alloc | apply pw_below_drewN | apply below_drew1 | refine below_set ?_ (IsS62.ge HI0.out)) | exact HB.out), kb0_⟩
     ·rw [if_neg c34] at H
      exact absurd H (by simp)
    ·rw [if_neg c33] at H
     exact absurd H (by simp)
   ·rw [if_neg c32] at H
    exact absurd H (by simp)
  ·rw [if_neg c31] at H
   have c31b0 : (t292 == 1) = false := beq_eq_false_iff_ne.mpr c31
   have c31b1 : (t292 != 1) = true := bne_iff_ne.mpr c31
   by_cases c44 : t292 = 2
   ·rw [if_pos c44] at H
    have c44b0 : (t292 == 2) = true := beq_iff_eq.mpr c44
    have c44b1 : (t292 != 2) = false := bne_eq_false_iff_eq.mpr c44
    clear c44
    simp only [Option.some.injEq, Prod.mk.injEq] at H
    obtain ⟨rfl, rfl, rfl⟩ := H
    go_enter Try.func30, Try.ntmps30
    go_wp2_with (first | ((with_reducible refine gate_callee (f := 46) rfl ?_); refine goesL_ (some 8) rfl rfl Try.func46 kr_ rfl #[.pointer (some ⟨g, 0, none⟩), .int .i64 8] rfl ta_ ?_; (with_reducible refine (spec_l02DrawPoly.calls k g s0_0 s0_1 s0_2 8 t275 t278 t279 w0 _ ?side1 ?side2 A2.out).mono ?_); (case side1 => exact is62_ HI0.out); (case side2 => repeat (first | (with_reducible first | exact HB.out | apply below_alloc | apply pw_below_drewN | apply below_drew1 | refine below_set ?_ (IsS62.ge HI0.out)) | exact HB.out)); rintro e w45 ⟨v276, rfl, ho0, hi, hb, hk⟩; refine ⟨_, rfl, ?_⟩; have n0_ := Aside0.mk (Kd.R_lower ho0 (keep_size (w := w) (g := g) (row := none) (kb0_))); have n1_ := Aside0.mk (KeepBut.trans (kb0_) hk (.inl rfl)); have n2_ := Aside0.mk (hb); have n3_ := Aside0.mk (hi); clear HK; clear HB; clear HI0; have HO277 := n0_; have HK := n1_; have HB := n2_; have HI0 := n3_; clear n0_ n1_ n2_ n3_; (try clear hb); (try clear hb2); (try clear hk); (try clear hi); (try clear ho0)) | ((with_reducible refine gate_callee (f := 31) rfl ?_); refine goesL_ (some 10) rfl rfl Try.func31 kr_ rfl #[.pointer (some ⟨g, 0, none⟩), .int .i64 9] rfl ta_ ?_; (with_reducible refine (spec_l01Next.calls g s0_0 t278 t279 9 t280 t281 t282 w0 _ ?side1 ?side2 A3.out).mono ?_); (case side1 => exact is62_ HI0.out); (case side2 => repeat (first | (with_reducible first | exact HB.out | apply below_alloc | apply pw_below_drewN | apply below_drew1 | refine below_set ?_ (IsS62.ge HI0.out)) | exact HB.out)); rintro e w46 ⟨rfl, hi, hb, hk⟩; refine ⟨_, rfl, ?_⟩; have n0_ := Aside0.mk (Kd.R_mono (Kd.R_keep (IsS62.apart (show IsS62 w0 _ g s0_0 t278 t279 from is62_ HI0.out) (ra_ HO277.out) (by decide)) hk (fun _ h => h.2)) (fun _ h => h.1)); have n1_ := Aside0.mk (KeepBut.trans (kb0_) hk (.inl rfl)); have n2_ := Aside0.mk (hb); have n3_ := Aside0.mk (hi); clear HO277; clear HK; clear HB; clear HI0; have HO277 := n0_; have HK := n1_; have HB := n2_; have HI0 := n3_; clear n0_ n1_ n2_ n3_; (try clear hb); (try clear hb2); (try clear hk); (try clear hi)) | ((with_reducible refine gate_callee (f := 31) rfl ?_); refine goesL_ (some 13) rfl rfl Try.func31 kr_ rfl #[.pointer (some ⟨g, 0, none⟩), .int .i64 9] rfl ta_ ?_; (with_reducible refine (spec_l01Next.calls g s0_0 t281 t282 9 t283 t284 t285 w0 _ ?side1 ?side2 A4.out).mono ?_); (case side1 => exact is62_ HI0.out); (case side2 => repeat (first | (with_reducible first | exact HB.out | apply below_alloc | apply pw_below_drewN | apply below_drew1 | refine below_set ?_ (IsS62.ge HI0.out)) | exact HB.out)); rintro e w47 ⟨rfl, hi, hb, hk⟩; refine ⟨_, rfl, ?_⟩; have n0_ := Aside0.mk (Kd.R_mono (Kd.R_keep (IsS62.apart (show IsS62 w0 _ g s0_0 t281 t282 from is62_ HI0.out) (ra_ HO277.out) (by decide)) hk (fun _ h => h.2)) (fun _ h => h.1)); have n1_ := Aside0.mk (KeepBut.trans (kb0_) hk (.inl rfl)); have n2_ := Aside0.mk (hb); have n3_ := Aside0.mk (hi); clear HO277; clear HK; clear HB; clear HI0; have HO277 := n0_; have HK := n1_; have HB := n2_; have HI0 := n3_; clear n0_ n1_ n2_ n3_; (try clear hb); (try clear hb2); (try clear hk); (try clear hi); obtain ⟨Ao48, co48, eo48⟩ := Kd.R_slice HO277.out; subst eo48) | ((with_reducible refine gate_callee (f := 45) rfl ?_); refine goesL_ (some 15) rfl rfl Try.func45 kr_ rfl #[.slice Ao48 t275.length co48, .int .i64 (wrap64 (t280 - 4)), .int .i64 (wrap64 (t283 - 4))] rfl ta_ ?_; (with_reducible refine (spec_l02Move.calls k _ _ t275 (wrap64 (t280 - 4)) (wrap64 (t283 - 4)) t286 _ ?side1 ?side2 A5.out).mono ?_); (case side1 => exact ca_ (Kd.R_reads' HO277.out).2.2); (case side2 => exact (Kd.R_reads' HO277.out).2.1); rintro e w49 ⟨v287, rfl, ho0, hb⟩; refine ⟨_, rfl, ?_⟩; have n0_ := Aside0.mk (Kd.R_elder' (ra_ HO277.out) (Kd.R_base ho0) hb); have n1_ := Aside0.mk (Kd.R_lower (Kd.R_new' ho0 (Kd.R_lt (ra_ HO277.out))) (keep_size (w := w) (g := g) (row := none) (kb0_))); have n2_ := Aside0.mk (IsS62.below (is62_ HI0.out) hb); have n3_ := Aside0.mk (KeepBut.trans (kb0_) (KeepBut.of_below hb g none) (.inl rfl)); have n4_ := Aside0.mk (below_step (by repeat (first | (with_reducible first | exact HB.out | apply below_alloc | apply pw_below_drewN | apply below_drew1 | refine below_set ?_ (IsS62.ge HI0.out)) | exact HB.out)) hb); clear HO277; clear HI0; clear HK; clear HB; have HO277 := n0_; have HO288 := n1_; have HI0 := n2_; have HK := n3_; have HB := n4_; clear n0_ n1_ n2_ n3_ n4_; (try clear hb); (try clear hb2); (try clear hk); (try clear hi); (try clear ho0); obtain ⟨Ao50, co50, eo50⟩ := Kd.R_slice HO288.out; subst eo50) | ((with_reducible refine gate_callee (f := 31) rfl ?_); refine goesL_ (some 19) rfl rfl Try.func31 kr_ rfl #[.pointer (some ⟨g, 0, none⟩), .int .i64 (t286.length : Int)] rfl ta_ ?_; (with_reducible refine (spec_l01Next.calls g s0_0 t284 t285 (t286.length : Int) t289 t290 t291 w0 _ ?side1 ?side2 A6.out).mono ?_); (case side1 => exact is62_ HI0.out); (case side2 => repeat (first | (with_reducible first | exact HB.out | apply below_alloc | apply pw_below_drewN | apply below_drew1 | refine below_set ?_ (IsS62.ge HI0.out)) | exact HB.out)); rintro e w51 ⟨rfl, hi, hb, hk⟩; refine ⟨_, rfl, ?_⟩; have n0_ := Aside0.mk (Kd.R_mono (Kd.R_keep (IsS62.apart (show IsS62 w0 _ g s0_0 t284 t285 from is62_ HI0.out) (ra_ HO277.out) (by decide)) hk (fun _ h => h.2)) (fun _ h => h.1)); have n1_ := Aside0.mk (Kd.R_mono (Kd.R_keep (IsS62.apart (show IsS62 w0 _ g s0_0 t284 t285 from is62_ HI0.out) (ra_ HO288.out) (by decide)) hk (fun _ h => h.2)) (fun _ h => h.1)); have n2_ := Aside0.mk (KeepBut.trans (kb0_) hk (.inl rfl)); have n3_ := Aside0.mk (hb); have n4_ := Aside0.mk (hi); clear HO277; clear HO288; clear HK; clear HB; clear HI0; have HO277 := n0_; have HO288 := n1_; have HK := n2_; have HB := n3_; have HI0 := n4_; clear n0_ n1_ n2_ n3_ n4_; (try clear hb); (try clear hb2); (try clear hk); (try clear hi)) | ((with_reducible refine gate_callee (f := 31) rfl ?_); refine goesL_ (some 21) rfl rfl Try.func31 kr_ rfl #[.pointer (some ⟨g, 0, none⟩), .int .i64 24] rfl ta_ ?_; (with_reducible refine (spec_l01Next.calls g s0_0 t290 t291 24 t292 t293 t294 w0 _ ?side1 ?side2 A7.out).mono ?_); (case side1 => exact is62_ HI0.out); (case side2 => repeat (first | (with_reducible first | exact HB.out | apply below_alloc | apply pw_below_drewN | apply below_drew1 | refine below_set ?_ (IsS62.ge HI0.out)) | exact HB.out)); rintro e w52 ⟨rfl, hi, hb, hk⟩; refine ⟨_, rfl, ?_⟩; have n0_ := Aside0.mk (Kd.R_mono (Kd.R_keep (IsS62.apart (show IsS62 w0 _ g s0_0 t290 t291 from is62_ HI0.out) (ra_ HO277.out) (by decide)) hk (fun _ h => h.2)) (fun _ h => h.1)); have n1_ := Aside0.mk (Kd.R_mono (Kd.R_keep (IsS62.apart (show IsS62 w0 _ g s0_0 t290 t291 from is62_ HI0.out) (ra_ HO288.out) (by decide)) hk (fun _ h => h.2)) (fun _ h => h.1)); have n2_ := Aside0.mk (KeepBut.trans (kb0_) hk (.inl rfl)); have n3_ := Aside0.mk (hb); have n4_ := Aside0.mk (hi); clear HO277; clear HO288; clear HK; clear HB; clear HI0; have HO277 := n0_; have HO288 := n1_; have HK := n2_; have HB := n3_; have HI0 := n4_; clear n0_ n1_ n2_ n3_ n4_; (try clear hb); (try clear hb2); (try clear hk); (try clear hi)))
    go_ret
    exact ⟨_, er_, by first | exact Kd.R_nil _ _ _ _ _ | exact Kd.N_nil _ _ _ _ _ | exact Kd.V_nil _ _ _ _ _ | exact Kd.Q_nil _ _ _ _ _ | exact Kd.S_nil _ _ _ _ _, is62_ HI0.out, by repeat (first | (with_reducible first | exact HB.out | apply below_alloc | apply pw_below_drewN | apply below_drew1 | refine below_set ?_ (IsS62.ge HI0.out)) | exact HB.out), kb0_⟩
   ·rw [if_neg c44] at H
    have c44b0 : (t292 == 2) = false := beq_eq_false_iff_ne.mpr c44
    have c44b1 : (t292 != 2) = true := bne_iff_ne.mpr c44
    by_cases c53 : t292 = 3
    ·rw [if_pos c53] at H
     have c53b0 : (t292 == 3) = true := beq_iff_eq.mpr c53
     have c53b1 : (t292 != 3) = false := bne_eq_false_iff_eq.mpr c53
     clear c53
     obtain ⟨y310, hy310⟩ : ∃ y_ : List (S49), y_ = (([] : List (S49))) := ⟨_, rfl⟩
     replace H : (spec_l02Draw.l0 k y310 0 s0_0 t293 t294) = some (r1, r2, r3) := by first | (rw [hy310]; with_reducible exact H) | (have H2_ := (Option.bind_some _ _).symm.trans H; rw [hy310]; with_reducible exact H2_) | (have H2_ := (Option.bind_some _ _).symm.trans H; with_reducible exact H2_) | with_reducible exact H | (rw [hy310]; exact H) | exact H
     have Ny310 := Aside0.mk hy310
     clear hy310
     have H' := Aside0.mk H
     clear H
     go_enter Try.func30, Try.ntmps30
     go_wp2_with (first | ((with_reducible refine gate_callee (f := 46) rfl ?_); refine goesL_ (some 8) rfl rfl Try.func46 kr_ rfl #[.pointer (some ⟨g, 0, none⟩), .int .i64 8] rfl ta_ ?_; (with_reducible refine (spec_l02DrawPoly.calls k g s0_0 s0_1 s0_2 8 t275 t278 t279 w0 _ ?side1 ?side2 A2.out).mono ?_); (case side1 => exact is62_ HI0.out); (case side2 => repeat (first | (with_reducible first | exact HB.out | apply below_alloc | apply pw_below_drewN | apply below_drew1 | refine below_set ?_ (IsS62.ge HI0.out)) | exact HB.out)); rintro e w54 ⟨v276, rfl, ho0, hi, hb, hk⟩; refine ⟨_, rfl, ?_⟩; have n0_ := Aside0.mk (Kd.R_lower ho0 (keep_size (w := w) (g := g) (row := none) (kb0_))); have n1_ := Aside0.mk (KeepBut.trans (kb0_) hk (.inl rfl)); have n2_ := Aside0.mk (hb); have n3_ := Aside0.mk (hi); clear HK; clear HB; clear HI0; have HO277 := n0_; have HK := n1_; have HB := n2_; have HI0 := n3_; clear n0_ n1_ n2_ n3_; (try clear hb); (try clear hb2); (try clear hk); (try clear hi); (try clear ho0)) | ((with_reducible refine gate_callee (f := 31) rfl ?_); refine goesL_ (some 10) rfl rfl Try.func31 kr_ rfl #[.pointer (some ⟨g, 0, none⟩), .int .i64 9] rfl ta_ ?_; (with_reducible refine (spec_l01Next.calls g s0_0 t278 t279 9 t280 t281 t282 w0 _ ?side1 ?side2 A3.out).mono ?_); (case side1 => exact is62_ HI0.out); (case side2 => repeat (first | (with_reducible first | exact HB.out | apply below_alloc | apply pw_below_drewN | apply below_drew1 | refine below_set ?_ (IsS62.ge HI0.out)) | exact HB.out)); rintro e w55 ⟨rfl, hi, hb, hk⟩; refine ⟨_, rfl, ?_⟩; have n0_ := Aside0.mk (Kd.R_mono (Kd.R_keep (IsS62.apart (show IsS62 w0 _ g s0_0 t278 t279 from is62_ HI0.out) (ra_ HO277.out) (by decide)) hk (fun _ h => h.2)) (fun _ h => h.1)); have n1_ := Aside0.mk (KeepBut.trans (kb0_) hk (.inl rfl)); have n2_ := Aside0.mk (hb); have n3_ := Aside0.mk (hi); clear HO277; clear HK; clear HB; clear HI0; have HO277 := n0_; have HK := n1_; have HB := n2_; have HI0 := n3_; clear n0_ n1_ n2_ n3_; (try clear hb); (try clear hb2); (try clear hk); (try clear hi)) | ((with_reducible refine gate_callee (f := 31) rfl ?_); refine goesL_ (some 13) rfl rfl Try.func31 kr_ rfl #[.pointer (some ⟨g, 0, none⟩), .int .i64 9] rfl ta_ ?_; (with_reducible refine (spec_l01Next.calls g s0_0 t281 t282 9 t283 t284 t285 w0 _ ?side1 ?side2 A4.out).mono ?_); (case side1 => exact is62_ HI0.out); (case side2 => repeat (first | (with_reducible first | exact HB.out | apply below_alloc | apply pw_below_drewN | apply below_drew1 | refine below_set ?_ (IsS62.ge HI0.out)) | exact HB.out)); rintro e w56 ⟨rfl, hi, hb, hk⟩; refine ⟨_, rfl, ?_⟩; have n0_ := Aside0.mk (Kd.R_mono (Kd.R_keep (IsS62.apart (show IsS62 w0 _ g s0_0 t281 t282 from is62_ HI0.out) (ra_ HO277.out) (by decide)) hk (fun _ h => h.2)) (fun _ h => h.1)); have n1_ := Aside0.mk (KeepBut.trans (kb0_) hk (.inl rfl)); have n2_ := Aside0.mk (hb); have n3_ := Aside0.mk (hi); clear HO277; clear HK; clear HB; clear HI0; have HO277 := n0_; have HK := n1_; have HB := n2_; have HI0 := n3_; clear n0_ n1_ n2_ n3_; (try clear hb); (try clear hb2); (try clear hk); (try clear hi); obtain ⟨Ao57, co57, eo57⟩ := Kd.R_slice HO277.out; subst eo57) | ((with_reducible refine gate_callee (f := 45) rfl ?_); refine goesL_ (some 15) rfl rfl Try.func45 kr_ rfl #[.slice Ao57 t275.length co57, .int .i64 (wrap64 (t280 - 4)), .int .i64 (wrap64 (t283 - 4))] rfl ta_ ?_; (with_reducible refine (spec_l02Move.calls k _ _ t275 (wrap64 (t280 - 4)) (wrap64 (t283 - 4)) t286 _ ?side1 ?side2 A5.out).mono ?_); (case side1 => exact ca_ (Kd.R_reads' HO277.out).2.2); (case side2 => exact (Kd.R_reads' HO277.out).2.1); rintro e w58 ⟨v287, rfl, ho0, hb⟩; refine ⟨_, rfl, ?_⟩; have n0_ := Aside0.mk (Kd.R_elder' (ra_ HO277.out) (Kd.R_base ho0) hb); have n1_ := Aside0.mk (Kd.R_lower (Kd.R_new' ho0 (Kd.R_lt (ra_ HO277.out))) (keep_size (w := w) (g := g) (row := none) (kb0_))); have n2_ := Aside0.mk (IsS62.below (is62_ HI0.out) hb); have n3_ := Aside0.mk (KeepBut.trans (kb0_) (KeepBut.of_below hb g none) (.inl rfl)); have n4_ := Aside0.mk (below_step (by repeat (first | (with_reducible first | exact HB.out | apply below_alloc | apply pw_below_drewN | apply below_drew1 | refine below_set ?_ (IsS62.ge HI0.out)) | exact HB.out)) hb); clear HO277; clear HI0; clear HK; clear HB; have HO277 := n0_; have HO288 := n1_; have HI0 := n2_; have HK := n3_; have HB := n4_; clear n0_ n1_ n2_ n3_ n4_; (try clear hb); (try clear hb2); (try clear hk); (try clear hi); (try clear ho0); obtain ⟨Ao59, co59, eo59⟩ := Kd.R_slice HO288.out; subst eo59) | ((with_reducible refine gate_callee (f := 31) rfl ?_); refine goesL_ (some 19) rfl rfl Try.func31 kr_ rfl #[.pointer (some ⟨g, 0, none⟩), .int .i64 (t286.length : Int)] rfl ta_ ?_; (with_reducible refine (spec_l01Next.calls g s0_0 t284 t285 (t286.length : Int) t289 t290 t291 w0 _ ?side1 ?side2 A6.out).mono ?_); (case side1 => exact is62_ HI0.out); (case side2 => repeat (first | (with_reducible first | exact HB.out | apply below_alloc | apply pw_below_drewN | apply below_drew1 | refine below_set ?_ (IsS62.ge HI0.out)) | exact HB.out)); rintro e w60 ⟨rfl, hi, hb, hk⟩; refine ⟨_, rfl, ?_⟩; have n0_ := Aside0.mk (Kd.R_mono (Kd.R_keep (IsS62.apart (show IsS62 w0 _ g s0_0 t284 t285 from is62_ HI0.out) (ra_ HO277.out) (by decide)) hk (fun _ h => h.2)) (fun _ h => h.1)); have n1_ := Aside0.mk (Kd.R_mono (Kd.R_keep (IsS62.apart (show IsS62 w0 _ g s0_0 t284 t285 from is62_ HI0.out) (ra_ HO288.out) (by decide)) hk (fun _ h => h.2)) (fun _ h => h.1)); have n2_ := Aside0.mk (KeepBut.trans (kb0_) hk (.inl rfl)); have n3_ := Aside0.mk (hb); have n4_ := Aside0.mk (hi); clear HO277; clear HO288; clear HK; clear HB; clear HI0; have HO277 := n0_; have HO288 := n1_; have HK := n2_; have HB := n3_; have HI0 := n4_; clear n0_ n1_ n2_ n3_ n4_; (try clear hb); (try clear hb2); (try clear hk); (try clear hi)) | ((with_reducible refine gate_callee (f := 31) rfl ?_); refine goesL_ (some 21) rfl rfl Try.func31 kr_ rfl #[.pointer (some ⟨g, 0, none⟩), .int .i64 24] rfl ta_ ?_; (with_reducible refine (spec_l01Next.calls g s0_0 t290 t291 24 t292 t293 t294 w0 _ ?side1 ?side2 A7.out).mono ?_); (case side1 => exact is62_ HI0.out); (case side2 => repeat (first | (with_reducible first | exact HB.out | apply below_alloc | apply pw_below_drewN | apply below_drew1 | refine below_set ?_ (IsS62.ge HI0.out)) | exact HB.out)); rintro e w61 ⟨rfl, hi, hb, hk⟩; refine ⟨_, rfl, ?_⟩; have n0_ := Aside0.mk (Kd.R_mono (Kd.R_keep (IsS62.apart (show IsS62 w0 _ g s0_0 t290 t291 from is62_ HI0.out) (ra_ HO277.out) (by decide)) hk (fun _ h => h.2)) (fun _ h => h.1)); have n1_ := Aside0.mk (Kd.R_mono (Kd.R_keep (IsS62.apart (show IsS62 w0 _ g s0_0 t290 t291 from is62_ HI0.out) (ra_ HO288.out) (by decide)) hk (fun _ h => h.2)) (fun _ h => h.1)); have n2_ := Aside0.mk (KeepBut.trans (kb0_) hk (.inl rfl)); have n3_ := Aside0.mk (hb); have n4_ := Aside0.mk (hi); clear HO277; clear HO288; clear HK; clear HB; clear HI0; have HO277 := n0_; have HO288 := n1_; have HK := n2_; have HB := n3_; have HI0 := n4_; clear n0_ n1_ n2_ n3_ n4_; (try clear hb); (try clear hb2); (try clear hk); (try clear hi)) | ((with_reducible refine gate_dst (N := 48) rfl ?_); refine Kd.R_lit k49 _ 49 ?hg (N := 48) ?hd (xs := ([] : List (S49))) (inner := []) (ok := fun _ => True) (okp := fun _ => True) ?hr ?hp (fun _ hk => hk) trivial (Below.refl _ _) (Nat.le_refl _) (by simp) ?_; (case hd => rfl); (case hg => rfl); (case hr => first | (go_simp; done) | (go_simp; rfl)); (case hp => exact (Reps.none _ _)); intro v311 w62 ho63 hb hg_ hnew_; clear hg_ hnew_; (first | rw [← Ny310.out] at ho63 | (simp only [Int.reduceToNat] at ho63; rw [← Ny310.out] at ho63)); have n0_ := Aside0.mk (Kd.R_elder' (ra_ HO277.out) (Kd.R_base ho63) hb); have n1_ := Aside0.mk (Kd.R_elder' (ra_ HO288.out) (Kd.R_base ho63) hb); have n2_ := Aside0.mk (Kd.R_lower (Kd.R_new' (Kd.R_new' ho63 (Kd.R_lt (ra_ HO277.out))) (Kd.R_lt (ra_ HO288.out))) (keep_size (w := w) (g := g) (row := none) (kb0_))); have n3_ := Aside0.mk (IsS62.below (is62_ HI0.out) hb); have n4_ := Aside0.mk (KeepBut.trans (kb0_) (KeepBut.of_below hb g none) (.inl rfl)); have n5_ := Aside0.mk (below_step (by repeat (first | (with_reducible first | exact HB.out | apply below_alloc | apply pw_below_drewN | apply below_drew1 | refine below_set ?_ (IsS62.ge HI0.out)) | exact HB.out)) hb); clear HO277; clear HO288; clear HI0; clear HK; clear HB; have HO277 := n0_; have HO288 := n1_; have HO312 := n2_; have HI0 := n3_; have HK := n4_; have HB := n5_; clear n0_ n1_ n2_ n3_ n4_ n5_; clear hb ho63))
     go_loopg [5, 6] k (fun kq v5 v6 w' => ∃ (x5_1 : List (S49)) (x6_1 : Int) (x1001_1 : Int) (x1002_1 : Int), v6 = .int .i64 x6_1 ∧ Aside0 (spec_l02Draw.l0 kq x5_1 x6_1 s0_0 x1001_1 x1002_1 = some (r1, r2, r3)) ∧ Aside0 (kq ≤ k) ∧ Aside0 (Kd.R k49 49 w' w.heap.size (fun _ => True) v5 x5_1) ∧ Aside0 (IsS62 w0 w' g s0_0 x1001_1 x1002_1) ∧ Aside0 (KeepBut w w' g none) ∧ Aside0 (Below w0.heap.size w0 w'))
     case atStart => exact ⟨(y310), (0), (t293), (t294), rs_, H', ⟨Nat.le_refl _⟩, ⟨by (with_reducible repeat (first | apply Kd.R_alloc | apply Kd.R_drewN | apply Kd.R_drew)); exact Kd.R_mono HO312.out (fun _ hk => trivial)⟩, ⟨is62_ HI0.out⟩, ⟨kb0_⟩, ⟨by repeat (first | (with_reducible first | exact HB.out | apply below_alloc | apply pw_below_drewN | apply below_drew1 | refine below_set ?_ (IsS62.ge HI0.out)) | exact HB.out)⟩⟩
     case round =>
      clear H'
      try clear c1
      try clear p1
      try clear q1
      try clear hx1
      try clear hf1
      try clear c2
      try clear p2
      try clear hx2
      try clear hf2
      try clear c3
      try clear p3
      try clear q3
      try clear hx3
      try clear c4
      try clear c5
      try clear p6
      try clear c8
      try clear c8b0
      try clear c8b1
      try clear c10
      try clear c10b0
      try clear c11
      try clear c11b0
      try clear c12
      try clear c12b0
      try clear c13
      try clear c13b0
      try clear c14
      try clear p14
      try clear q14
      try clear hx14
      try clear hf14
      try clear c28
      try clear hx28
      try clear hf28
      try clear c30
      try clear p30
      try clear q30
      try clear hx30
      try clear c31
      try clear c31b0
      try clear c31b1
      try clear c32
      try clear c32b0
      try clear c33
      try clear c33b0
      try clear c34
      try clear c44
      try clear c44b0
      try clear c44b1
      try clear c45
      try clear c46
      try clear c47
      try clear c53
      try clear c53b0
      try clear c53b1
      try clear hx14_0
      try clear hx14_1
      try clear hx28_0
      try clear hx301_0
      try clear hx306_0
      try clear hx306_1
      try clear p14
      try clear p301
      try clear p306
      try clear q14
      try clear q301
      try clear q306
      obtain ⟨x5_1, x6_1, x1001_1, x1002_1, rfl, HA, HK1, HO_5, HI0, HK, HB⟩ := hrel
      cases gk with
      | zero => exact absurd HA.out (by simp [spec_l02Draw.l0])
      | succ k1 =>
       have H := HA.out
       clear HA
       simp only [spec_l02Draw.l0] at H
       replace H := Option.bind_eq_some_iff.mp H
       obtain ⟨⟨t313, t314, t315⟩, A640, H⟩ := H
       replace H : (if x6_1 < (wrap64 (40 + t313)) then (if x5_1.length < 8796093022208 then (spec_l02Draw.l0 k1 (x5_1 ++ [(⟨x6_1, 0⟩ : S49)]) (wrap64 (x6_1 + 1)) s0_0 t314 t315) else (none)) else (some (x5_1, t314, t315))) = some (r1, r2, r3) := H
       have A64 := Aside0.mk A640
       clear A640
       by_cases c65 : x6_1 < (wrap64 (40 + t313))
       ·rw [if_pos c65] at H
        have c65b0 : decide (x6_1 < (wrap64 (40 + t313))) = true := decide_eq_true c65
        clear c65
        by_cases c66 : x5_1.length < 8796093022208
        ·rw [if_pos c66] at H
         have LMc66 := Aside0.mk c66
         clear c66
         obtain ⟨y316, hy316⟩ : ∃ y_ : List (S49), y_ = (x5_1 ++ [(⟨x6_1, 0⟩ : S49)]) := ⟨_, rfl⟩
         replace H : (spec_l02Draw.l0 k1 y316 (wrap64 (x6_1 + 1)) s0_0 t314 t315) = some (r1, r2, r3) := by first | (rw [hy316]; with_reducible exact H) | (have H2_ := (Option.bind_some _ _).symm.trans H; rw [hy316]; with_reducible exact H2_) | (have H2_ := (Option.bind_some _ _).symm.trans H; with_reducible exact H2_) | with_reducible exact H | (rw [hy316]; exact H) | exact H
         have Ny316 := Aside0.mk hy316
         clear hy316
         have H' := Aside0.mk H
         clear H
         go_wp2_with (first | ((with_reducible refine gate_callee (f := 31) rfl ?_); refine goesL_ (some 51) rfl rfl Try.func31 kr_ rfl #[.pointer (some ⟨g, 0, none⟩), .int .i64 2] rfl ta_ ?_; (with_reducible refine (spec_l01Next.calls g s0_0 x1001_1 x1002_1 2 t313 t314 t315 w0 _ ?side1 ?side2 A64.out).mono ?_); (case side1 => exact is62_ HI0.out); (case side2 => repeat (first | (with_reducible first | exact HB.out | apply below_alloc | apply pw_below_drewN | apply below_drew1 | refine below_set ?_ (IsS62.ge HI0.out)) | exact HB.out)); rintro e w67 ⟨rfl, hi, hb, hk⟩; refine ⟨_, rfl, ?_⟩; have n0_ := Aside0.mk (Kd.R_mono (Kd.R_keep (IsS62.apart (show IsS62 w0 _ g s0_0 x1001_1 x1002_1 from is62_ HI0.out) (ra_ HO_5.out) (by decide)) hk (fun _ h => h.2)) (fun _ h => h.1)); have n1_ := Aside0.mk (KeepBut.trans (kb0_) hk (.inl rfl)); have n2_ := Aside0.mk (hb); have n3_ := Aside0.mk (hi); clear HO_5; clear HK; clear HB; clear HI0; have HO_5 := n0_; have HK := n1_; have HB := n2_; have HI0 := n3_; clear n0_ n1_ n2_ n3_; (try clear hb); (try clear hb2); (try clear hk); (try clear hi)) | ((with_reducible refine gate_builtin (b := .append) (xs := #[.tmp 56, .tmp 59]) rfl ?_); at_builtin; refine Kd.R_append k49 w.heap.size rfl (.tmp 56) (.tmp 59) 24 49 (.agg #[(.int .i64 0), (.int .i64 0)]) 16 rfl Try.underlying24 info49 rfl (by decide) (by omega) u5 x5_1 (⟨x6_1, 0⟩ : S49) [.int .i64 x6_1, .int .i64 0] (fun _ => True) (fun _ => False) rfl rfl ?aP (fun _ hk => hk.elim) ?aF ?aO (Below.refl _ _) ?aS ?aL ?_; (case aP => exact k49_mkM _ _ _ (⟨x6_1, 0⟩ : S49)); (case aF => exact (fun _ _ => trivial)); (case aO => exact (ra_ HO_5.out)); (case aS => exact (keep_size (w := w) (g := g) (row := none) (kb0_))); (case aL => have := LMc66.out; omega); intro v317 w68 ho hb hg hat; rw [← Ny316.out] at ho; have n0_ := Aside0.mk (IsS62.grown (is62_ HI0.out) hg (IsS62.own_ne HI0.out HO_5.out (by decide))); have n1_ := Aside0.mk (below_weaken (by repeat (first | (with_reducible first | exact HB.out | apply below_alloc | apply pw_below_drewN | apply below_drew1 | refine below_set ?_ (IsS62.ge HI0.out)) | exact HB.out)) HL.out hb); have n2_ := Aside0.mk (KeepBut.trans (kb0_) (KeepBut.of_grown hg g) (Kd.R_base2 HO_5.out)); have n3_ := Aside0.mk (ho); clear HI0; clear HB; clear HK; clear HO_5; have HI0 := n0_; have HB := n1_; have HK := n2_; have HO318 := n3_; clear n0_ n1_ n2_ n3_; clear ho hb hg hat))
         go_roundg k1
         case measure => have := HK1.out; omega
         case rel => exact ⟨(y316), (wrap64 (x6_1 + 1)), (t314), (t315), rs_, H', ⟨by have := HK1.out; omega⟩, ⟨ra_ HO318.out⟩, ⟨is62_ HI0.out⟩, ⟨kb0_⟩, ⟨by repeat (first | (with_reducible first | exact HB.out | apply below_alloc | apply pw_below_drewN | apply below_drew1 | refine below_set ?_ (IsS62.ge HI0.out)) | exact HB.out)⟩⟩
        ·rw [if_neg c66] at H
         exact absurd H (by simp)
       ·rw [if_neg c65] at H
        have c65b0 : decide (x6_1 < (wrap64 (40 + t313))) = false := decide_eq_false c65
        clear c65
        simp only [Option.some.injEq, Prod.mk.injEq] at H
        obtain ⟨rfl, rfl, rfl⟩ := H
        go_wp2_with (first | ((with_reducible refine gate_callee (f := 31) rfl ?_); refine goesL_ (some 51) rfl rfl Try.func31 kr_ rfl #[.pointer (some ⟨g, 0, none⟩), .int .i64 2] rfl ta_ ?_; (with_reducible refine (spec_l01Next.calls g s0_0 x1001_1 x1002_1 2 t313 t314 t315 w0 _ ?side1 ?side2 A64.out).mono ?_); (case side1 => exact is62_ HI0.out); (case side2 => repeat (first | (with_reducible first | exact HB.out | apply below_alloc | apply pw_below_drewN | apply below_drew1 | refine below_set ?_ (IsS62.ge HI0.out)) | exact HB.out)); rintro e w69 ⟨rfl, hi, hb, hk⟩; refine ⟨_, rfl, ?_⟩; have n0_ := Aside0.mk (Kd.R_mono (Kd.R_keep (IsS62.apart (show IsS62 w0 _ g s0_0 x1001_1 x1002_1 from is62_ HI0.out) (ra_ HO_5.out) (by decide)) hk (fun _ h => h.2)) (fun _ h => h.1)); have n1_ := Aside0.mk (KeepBut.trans (kb0_) hk (.inl rfl)); have n2_ := Aside0.mk (hb); have n3_ := Aside0.mk (hi); clear HO_5; clear HK; clear HB; clear HI0; have HO_5 := n0_; have HK := n1_; have HB := n2_; have HI0 := n3_; clear n0_ n1_ n2_ n3_; (try clear hb); (try clear hb2); (try clear hk); (try clear hi)))
        go_ret
        exact ⟨_, er_, ra_ HO_5.out, is62_ HI0.out, by repeat (first | (with_reducible first | exact HB.out | apply below_alloc | apply pw_below_drewN | apply below_drew1 | refine below_set ?_ (IsS62.ge HI0.out)) | exact HB.out), kb0_⟩
    ·rw [if_neg c53] at H
     have c53b0 : (t292 == 3) = false := beq_eq_false_iff_ne.mpr c53
     have c53b1 : (t292 != 3) = true := bne_iff_ne.mpr c53
     by_cases c70 : t292 = 4
     ·rw [if_pos c70] at H
      have c70b0 : (t292 == 4) = true := beq_iff_eq.mpr c70
      have c70b1 : (t292 != 4) = false := bne_eq_false_iff_eq.mpr c70
      clear c70
      by_cases c71 : 0 < (t286.length : Int)
      ·rw [if_pos c71] at H
       have c71b0 : decide (0 < (t286.length : Int)) = true := decide_eq_true c71
       have c71b1 : decide (0 < t286.length) = true := decide_eq_true (by omega)
       clear c71
       obtain ⟨ji72, hji72⟩ : ∃ j_ : Int, (wrap64 ((t286.length : Int) - 1)) = j_ := ⟨_, rfl⟩
       replace H : (if 0 ≤ (ji72) then (if (ji72) < (t286.length : Int) then (if t286.length < 8796093022208 then (some ((t286 ++ [(⟨wrap64 (((rd_T49 t286 0).f0) + 3), wrap64 (((rd_T49 t286 (ji72)).f1) + 2)⟩ : S49)]), t293, t294)) else (none)) else (none)) else (none)) = some (r1, r2, r3) := by first | (rw [hji72] at H; exact H) | (simp only [hji72] at H ⊢; exact H)
       (try rw [hji72] at A2)
       (try rw [hji72] at A3)
       (try rw [hji72] at A4)
       (try rw [hji72] at A5)
       (try rw [hji72] at A6)
       (try rw [hji72] at A7)
       have hji72w : (IntKind.i64.wrap ((t286.length : Int) - 1)) = ji72 := (i64_w _).trans hji72
       by_cases c73 : 0 ≤ (ji72)
       ·rw [if_pos c73] at H
        have c73b0 : decide (0 ≤ (ji72)) = true := decide_eq_true c73
        clear c73
        by_cases c74 : (ji72) < (t286.length : Int)
        ·rw [if_pos c74] at H
         have c74b0 : decide ((ji72) < (t286.length : Int)) = true := decide_eq_true c74
         clear c74
         by_cases c75 : t286.length < 8796093022208
         ·rw [if_pos c75] at H
          have LMc75 := Aside0.mk c75
          clear c75
          obtain ⟨y321, hy321⟩ : ∃ y_ : List (S49), y_ = (t286 ++ [(⟨wrap64 (((rd_T49 t286 0).f0) + 3), wrap64 (((rd_T49 t286 (ji72)).f1) + 2)⟩ : S49)]) := ⟨_, rfl⟩
          replace H : (some (y321, t293, t294)) = some (r1, r2, r3) := by first | (rw [hy321]; with_reducible exact H) | (have H2_ := (Option.bind_some _ _).symm.trans H; rw [hy321]; with_reducible exact H2_) | (have H2_ := (Option.bind_some _ _).symm.trans H; with_reducible exact H2_) | with_reducible exact H | (rw [hy321]; exact H) | exact H
          have Ny321 := Aside0.mk hy321
          clear hy321
          simp only [Option.some.injEq, Prod.mk.injEq] at H
          obtain ⟨rfl, rfl, rfl⟩ := H
          go_enter Try.func30, Try.ntmps30
          try go_wp2_with (first | ((with_reducible refine gate_callee (f := 46) rfl ?_); refine goesL_ (some 8) rfl rfl Try.func46 kr_ rfl #[.pointer (some ⟨g, 0, none⟩), .int .i64 8] rfl ta_ ?_; (with_reducible refine (spec_l02DrawPoly.calls k g s0_0 s0_1 s0_2 8 t275 t278 t279 w0 _ ?side1 ?side2 A2.out).mono ?_); (case side1 => exact is62_ HI0.out); (case side2 => repeat (first | (with_reducible first | exact HB.out | apply below_alloc | apply pw_below_drewN | apply below_drew1 | refine below_set ?_ (IsS62.ge HI0.out)) | exact HB.out)); rintro e w76 ⟨v276, rfl, ho0, hi, hb, hk⟩; refine ⟨_, rfl, ?_⟩; have n0_ := Aside0.mk (Kd.R_lower ho0 (keep_size (w := w) (g := g) (row := none) (kb0_))); have n1_ := Aside0.mk (KeepBut.trans (kb0_) hk (.inl rfl)); have n2_ := Aside0.mk (hb); have n3_ := Aside0.mk (hi); clear HK; clear HB; clear HI0; have HO277 := n0_; have HK := n1_; have HB := n2_; have HI0 := n3_; clear n0_ n1_ n2_ n3_; (try clear hb); (try clear hb2); (try clear hk); (try clear hi); (try clear ho0)) | ((with_reducible refine gate_callee (f := 31) rfl ?_); refine goesL_ (some 10) rfl rfl Try.func31 kr_ rfl #[.pointer (some ⟨g, 0, none⟩), .int .i64 9] rfl ta_ ?_; (with_reducible refine (spec_l01Next.calls g s0_0 t278 t279 9 t280 t281 t282 w0 _ ?side1 ?side2 A3.out).mono ?_); (case side1 => exact is62_ HI0.out); (case side2 => repeat (first | (with_reducible first | exact HB.out | apply below_alloc | apply pw_below_drewN | apply below_drew1 | refine below_set ?_ (IsS62.ge HI0.out)) | exact HB.out)); rintro e w77 ⟨rfl, hi, hb, hk⟩; refine ⟨_, rfl, ?_⟩; have n0_ := Aside0.mk (Kd.R_mono (Kd.R_keep (IsS62.apart (show IsS62 w0 _ g s0_0 t278 t279 from is62_ HI0.out) (ra_ HO277.out) (by decide)) hk (fun _ h => h.2)) (fun _ h => h.1)); have n1_ := Aside0.mk (KeepBut.trans (kb0_) hk (.inl rfl)); have n2_ := Aside0.mk (hb); have n3_ := Aside0.mk (hi); clear HO277; clear HK; clear HB; clear HI0; have HO277 := n0_; have HK := n1_; have HB := n2_; have HI0 := n3_; clear n0_ n1_ n2_ n3_; (try clear hb); (try clear hb2); (try clear hk); (try clear hi)) | ((with_reducible refine gate_callee (f := 31) rfl ?_); refine goesL_ (some 13) rfl rfl Try.func31 kr_ rfl #[.pointer (some ⟨g, 0, none⟩), .int .i64 9] rfl ta_ ?_; (with_reducible refine (spec_l01Next.calls g s0_0 t281 t282 9 t283 t284 t285 w0 _ ?side1 ?side2 A4.out).mono ?_); (case side1 => exact is62_ HI0.out); (case side2 => repeat (first | (with_reducible first | exact HB.out | apply below_alloc | apply pw_below_drewN | apply below_drew1 | refine below_set ?_ (IsS62.ge HI0.out)) | exact HB.out)); rintro e w78 ⟨rfl, hi, hb, hk⟩; refine ⟨_, rfl, ?_⟩; have n0_ := Aside0.mk (Kd.R_mono (Kd.R_keep (IsS62.apart (show IsS62 w0 _ g s0_0 t281 t282 from is62_ HI0.out) (ra_ HO277.out) (by decide)) hk (fun _ h => h.2)) (fun _ h => h.1)); have n1_ := Aside0.mk (KeepBut.trans (kb0_) hk (.inl rfl)); have n2_ := Aside0.mk (hb); have n3_ := Aside0.mk (hi); clear HO277; clear HK; clear HB; clear HI0; have HO277 := n0_; have HK := n1_; have HB := n2_; have HI0 := n3_; clear n0_ n1_ n2_ n3_; (try clear hb); (try clear hb2); (try clear hk); (try clear hi); obtain ⟨Ao79, co79, eo79⟩ := Kd.R_slice HO277.out; subst eo79) | ((with_reducible refine gate_callee (f := 45) rfl ?_); refine goesL_ (some 15) rfl rfl Try.func45 kr_ rfl #[.slice Ao79 t275.length co79, .int .i64 (wrap64 (t280 - 4)), .int .i64 (wrap64 (t283 - 4))] rfl ta_ ?_; (with_reducible refine (spec_l02Move.calls k _ _ t275 (wrap64 (t280 - 4)) (wrap64 (t283 - 4)) t286 _ ?side1 ?side2 A5.out).mono ?_); (case side1 => exact ca_ (Kd.R_reads' HO277.out).2.2); (case side2 => exact (Kd.R_reads' HO277.out).2.1); rintro e w80 ⟨v287, rfl, ho0, hb⟩; refine ⟨_, rfl, ?_⟩; have n0_ := Aside0.mk (Kd.R_elder' (ra_ HO277.out) (Kd.R_base ho0) hb); have n1_ := Aside0.mk (Kd.R_lower (Kd.R_new' ho0 (Kd.R_lt (ra_ HO277.out))) (keep_size (w := w) (g := g) (row := none) (kb0_))); have n2_ := Aside0.mk (IsS62.below (is62_ HI0.out) hb); have n3_ := Aside0.mk (KeepBut.trans (kb0_) (KeepBut.of_below hb g none) (.inl rfl)); have n4_ := Aside0.mk (below_step (by repeat (first | (with_reducible first | exact HB.out | apply below_alloc | apply pw_below_drewN | apply below_drew1 | refine below_set ?_ (IsS62.ge HI0.out)) | exact HB.out)) hb); clear HO277; clear HI0; clear HK; clear HB; have HO277 := n0_; have HO288 := n1_; have HI0 := n2_; have HK := n3_; have HB := n4_; clear n0_ n1_ n2_ n3_ n4_; (try clear hb); (try clear hb2); (try clear hk); (try clear hi); (try clear ho0); obtain ⟨Ao81, co81, eo81⟩ := Kd.R_slice HO288.out; subst eo81) | ((with_reducible refine gate_callee (f := 31) rfl ?_); refine goesL_ (some 19) rfl rfl Try.func31 kr_ rfl #[.pointer (some ⟨g, 0, none⟩), .int .i64 (t286.length : Int)] rfl ta_ ?_; (with_reducible refine (spec_l01Next.calls g s0_0 t284 t285 (t286.length : Int) t289 t290 t291 w0 _ ?side1 ?side2 A6.out).mono ?_); (case side1 => exact is62_ HI0.out); (case side2 => repeat (first | (with_reducible first | exact HB.out | apply below_alloc | apply pw_below_drewN | apply below_drew1 | refine below_set ?_ (IsS62.ge HI0.out)) | exact HB.out)); rintro e w82 ⟨rfl, hi, hb, hk⟩; refine ⟨_, rfl, ?_⟩; have n0_ := Aside0.mk (Kd.R_mono (Kd.R_keep (IsS62.apart (show IsS62 w0 _ g s0_0 t284 t285 from is62_ HI0.out) (ra_ HO277.out) (by decide)) hk (fun _ h => h.2)) (fun _ h => h.1)); have n1_ := Aside0.mk (Kd.R_mono (Kd.R_keep (IsS62.apart (show IsS62 w0 _ g s0_0 t284 t285 from is62_ HI0.out) (ra_ HO288.out) (by decide)) hk (fun _ h => h.2)) (fun _ h => h.1)); have n2_ := Aside0.mk (KeepBut.trans (kb0_) hk (.inl rfl)); have n3_ := Aside0.mk (hb); have n4_ := Aside0.mk (hi); clear HO277; clear HO288; clear HK; clear HB; clear HI0; have HO277 := n0_; have HO288 := n1_; have HK := n2_; have HB := n3_; have HI0 := n4_; clear n0_ n1_ n2_ n3_ n4_; (try clear hb); (try clear hb2); (try clear hk); (try clear hi)) | ((with_reducible refine gate_callee (f := 31) rfl ?_); refine goesL_ (some 21) rfl rfl Try.func31 kr_ rfl #[.pointer (some ⟨g, 0, none⟩), .int .i64 24] rfl ta_ ?_; (with_reducible refine (spec_l01Next.calls g s0_0 t290 t291 24 t292 t293 t294 w0 _ ?side1 ?side2 A7.out).mono ?_); (case side1 => exact is62_ HI0.out); (case side2 => repeat (first | (with_reducible first | exact HB.out | apply below_alloc | apply pw_below_drewN | apply below_drew1 | refine below_set ?_ (IsS62.ge HI0.out)) | exact HB.out)); rintro e w83 ⟨rfl, hi, hb, hk⟩; refine ⟨_, rfl, ?_⟩; have n0_ := Aside0.mk (Kd.R_mono (Kd.R_keep (IsS62.apart (show IsS62 w0 _ g s0_0 t290 t291 from is62_ HI0.out) (ra_ HO277.out) (by decide)) hk (fun _ h => h.2)) (fun _ h => h.1)); have n1_ := Aside0.mk (Kd.R_mono (Kd.R_keep (IsS62.apart (show IsS62 w0 _ g s0_0 t290 t291 from is62_ HI0.out) (ra_ HO288.out) (by decide)) hk (fun _ h => h.2)) (fun _ h => h.1)); have n2_ := Aside0.mk (KeepBut.trans (kb0_) hk (.inl rfl)); have n3_ := Aside0.mk (hb); have n4_ := Aside0.mk (hi); clear HO277; clear HO288; clear HK; clear HB; clear HI0; have HO277 := n0_; have HO288 := n1_; have HK := n2_; have HB := n3_; have HI0 := n4_; clear n0_ n1_ n2_ n3_ n4_; (try clear hb); (try clear hb2); (try clear hk); (try clear hi)))
          have n0_ := Aside0.mk (Kd.R_drew HO277.out)
          have n1_ := Aside0.mk (Kd.R_drew HO288.out)
          have n2_ := Aside0.mk (IsS62.drew HI0.out)
          have n3_ := Aside0.mk (keep_drew HK.out)
          have n4_ := Aside0.mk (below_drew1 HB.out)
          clear HO277
          clear HO288
          clear HI0
          clear HK
          clear HB
          have HO277 := n0_
          have HO288 := n1_
          have HI0 := n2_
          have HK := n3_
          have HB := n4_
          clear n0_ n1_ n2_ n3_ n4_
          have p319 : 0 ≤ (0 : Int) := (by omega)
          have q319 : 0 < (t286.length : Int) := od_
          obtain ⟨ad319, e319, hx319_0, hx319_1⟩ := at_T49 (Kd.R_reads' HO288.out).2.2 0 p319 q319
          cases e319
          have qi319 : (0 < t286.length) = True := eq_true (by omega)
          (try rw [show ((0 : Int)).toNat = 0 from rfl] at hx319_0)
          (try rw [show 0 * 2 = 0 from rfl] at hx319_0)
          (try rw [Addr.add_zero'] at hx319_0)
          (try rw [show ((0 : Int)).toNat = 0 from rfl] at hx319_1)
          (try rw [show 0 * 2 = 0 from rfl] at hx319_1)
          (try rw [Addr.add_zero'] at hx319_1)
          replace p319 := eq_true p319
          replace q319 := eq_true q319
          have p320 : 0 ≤ ((ji72) : Int) := od_
          have q320 : (ji72) < (t286.length : Int) := od_
          obtain ⟨ad320, e320, hx320_0, hx320_1⟩ := at_T49 (Kd.R_reads' HO288.out).2.2 (ji72) p320 q320
          obtain rfl : ad319 = ad320 := (by injection e320)
          replace p320 := eq_true p320
          replace q320 := eq_true q320
          refine start_ (n := 18) (S := fun w' => w'.cell? ad319 = some (.int .i64 ((rd_T49 t286 0).f0)) ∧ w'.cell? ⟨ad319.block, ad319.off + 1, none⟩ = some (.int .i64 ((rd_T49 t286 0).f1)) ∧ w'.cell? (ad319.add (((ji72)).toNat * 2)) = some (.int .i64 ((rd_T49 t286 (ji72)).f0)) ∧ w'.cell? ⟨(ad319.add (((ji72)).toNat * 2)).block, (ad319.add (((ji72)).toNat * 2)).off + 1, none⟩ = some (.int .i64 ((rd_T49 t286 (ji72)).f1))) (ds := [15, 16]) #[false, false, false, false, false, false, false, false, false, false, false, false, false, false, false, false, false, false] kr_ rfl rfl ⟨hx319_0, hx319_1, hx320_0, hx320_1⟩ (fun hHeld => ?_); refine with_tabW spec_l02Draw.tab20 spec_l02Draw.bits20 (fun HT_ HW_ => ?_)
          generalize w83.drew = w84 at HO277 HO288 HI0 HK HB hx319_0 hx319_1 hx320_0 hx320_1 hHeld ⊢
          refine pure_ (i := 0) (N := some 65) (v := ?_) (a' := ?_) #[true, false, false, false, false, false, false, false, false, false, false, false, false, false, false, false, false, false] rfl rfl (any_of HT_.out kr_) (fun _ _ _ h => h) (Or.inl ⟨by rfl, ?_⟩) ?_ ?_
          rotate_left
          ·intro w'
           go_simp
           with_reducible rfl
          rotate_left
          ·simp only [sp_]
           rfl
          refine pure_ (i := 1) (N := some 66) (v := ?_) (a' := ?_) #[true, true, false, false, false, false, false, false, false, false, false, false, false, false, false, false, false, false] rfl rfl (any_of HT_.out kr_) (fun _ _ _ h => h) (Or.inl ⟨by rfl, ?_⟩) ?_ ?_
          rotate_left
          ·intro w'
           go_simp
           with_reducible rfl
          rotate_left
          ·simp only [sp_]
           rfl
          refine pure_ (i := 2) (N := some 67) (v := ?_) (a' := ?_) #[true, true, true, false, false, false, false, false, false, false, false, false, false, false, false, false, false, false] rfl rfl (any_of HT_.out kr_) (fun _ _ _ h => h) (Or.inl ⟨by rfl, ?_⟩) ?_ ?_
          rotate_left
          ·intro w'
           go_simp
           with_reducible rfl
          rotate_left
          ·simp only [sp_]
           rfl
          refine pure_ (i := 3) (N := some 68) (v := ?_) (a' := ?_) #[true, true, true, true, false, false, false, false, false, false, false, false, false, false, false, false, false, false] rfl rfl (any_of HT_.out kr_) (fun _ _ _ h => h) (Or.inl ⟨by rfl, ?_⟩) ?_ ?_
          rotate_left
          ·intro w'
           go_simp
           with_reducible rfl
          rotate_left
          ·simp only [sp_]
           rfl
          refine pure_ (i := 6) (N := some 71) (v := ?_) (a' := ?_) #[true, true, true, true, false, false, true, false, false, false, false, false, false, false, false, false, false, false] rfl rfl (any_of HT_.out kr_) (fun _ _ _ h => h) (Or.inl ⟨by rfl, ?_⟩) ?_ ?_
          rotate_left
          ·intro w'
           go_simp
           with_reducible rfl
          rotate_left
          ·simp only [sp_]
           rfl
          refine pure_ (i := 7) (N := some 72) (v := ?_) (a' := ?_) #[true, true, true, true, false, false, true, true, false, false, false, false, false, false, false, false, false, false] rfl rfl (any_of HT_.out kr_) (fun _ _ _ h => h) (Or.inl ⟨by rfl, ?_⟩) ?_ ?_
          rotate_left
          ·intro w'
           go_simp
           with_reducible rfl
          rotate_left
          ·simp only [sp_]
           rfl
          refine pure_ (i := 8) (N := some 73) (v := ?_) (a' := ?_) #[true, true, true, true, false, false, true, true, true, false, false, false, false, false, false, false, false, false] rfl rfl (any_of HT_.out kr_) (fun _ _ _ h => h) (Or.inl ⟨by rfl, ?_⟩) ?_ ?_
          rotate_left
          ·intro w'
           go_simp
           with_reducible rfl
          rotate_left
          ·simp only [sp_]
           rfl
          refine pure_ (i := 9) (N := some 74) (v := ?_) (a' := ?_) #[true, true, true, true, false, false, true, true, true, true, false, false, false, false, false, false, false, false] rfl rfl (any_of HT_.out kr_) (fun _ _ _ h => h) (Or.inl ⟨by rfl, ?_⟩) ?_ ?_
          rotate_left
          ·intro w'
           go_simp
           with_reducible rfl
          rotate_left
          ·simp only [sp_]
           rfl
          refine pure_ (i := 10) (N := some 75) (v := ?_) (a' := ?_) #[true, true, true, true, false, false, true, true, true, true, true, false, false, false, false, false, false, false] rfl rfl (any_of HT_.out kr_) (fun _ _ _ h => h) (Or.inl ⟨by rfl, ?_⟩) ?_ ?_
          rotate_left
          ·intro w'
           go_simp
           with_reducible rfl
          rotate_left
          ·simp only [sp_]
           rfl
          refine pure_ (i := 11) (N := some 76) (v := ?_) (a' := ?_) #[true, true, true, true, false, false, true, true, true, true, true, true, false, false, false, false, false, false] rfl rfl (any_of HT_.out kr_) (fun _ _ _ h => h) (Or.inl ⟨by rfl, ?_⟩) ?_ ?_
          rotate_left
          ·intro w'
           go_simp
           with_reducible rfl
          rotate_left
          ·simp only [sp_]
           rfl
          refine take_ (i := 4) (N := some 69) (v := ?_) (a' := ?_) #[true, true, true, true, true, false, true, true, true, true, true, true, false, false, false, false, false, false] rfl rfl (take_ofW HT_.out HW_.out kr_) (fun _ _ _ h => h) (Or.inl ⟨by rfl, ?_⟩) hHeld ?_ ?_
          rotate_left
          ·rintro w' ⟨s0, s1, s2, s3⟩
           go_simp
           with_reducible rfl
          rotate_left
          ·simp only [sp_]
           rfl
          refine pure_ (i := 5) (N := some 70) (v := ?_) (a' := ?_) #[true, true, true, true, true, true, true, true, true, true, true, true, false, false, false, false, false, false] rfl rfl (any_of HT_.out kr_) (fun _ _ _ h => h) (Or.inl ⟨by rfl, ?_⟩) ?_ ?_
          rotate_left
          ·intro w'
           go_simp
           with_reducible rfl
          rotate_left
          ·simp only [sp_]
           rfl
          refine take_ (i := 12) (N := some 77) (v := ?_) (a' := ?_) #[true, true, true, true, true, true, true, true, true, true, true, true, true, false, false, false, false, false] rfl rfl (take_ofW HT_.out HW_.out kr_) (fun _ _ _ h => h) (Or.inl ⟨by rfl, ?_⟩) hHeld ?_ ?_
          rotate_left
          ·rintro w' ⟨s0, s1, s2, s3⟩
           go_simp
           with_reducible rfl
          rotate_left
          ·simp only [sp_]
           rfl
          refine pure_ (i := 13) (N := some 78) (v := ?_) (a' := ?_) #[true, true, true, true, true, true, true, true, true, true, true, true, true, true, false, false, false, false] rfl rfl (any_of HT_.out kr_) (fun _ _ _ h => h) (Or.inl ⟨by rfl, ?_⟩) ?_ ?_
          rotate_left
          ·intro w'
           go_simp
           with_reducible rfl
          rotate_left
          ·simp only [sp_]
           rfl
          refine pure_ (i := 14) (N := some 79) (v := ?_) (a' := ?_) #[true, true, true, true, true, true, true, true, true, true, true, true, true, true, true, false, false, false] rfl rfl (any_of HT_.out kr_) (fun _ _ _ h => h) (Or.inl ⟨by rfl, ?_⟩) ?_ ?_
          rotate_left
          ·intro w'
           go_simp
           with_reducible rfl
          rotate_left
          ·simp only [sp_]
           rfl
          refine last_ (i := 15) (N := some 80) #[true, true, true, true, true, true, true, true, true, true, true, true, true, true, true, true, false, false] rfl rfl (one_of HT_.out kr_) (by decide) (fun K hK => ?_)
          refine value_ (w1 := ?_) (v := ?_) (by rfl) rfl ?_ ?_
          rotate_left 2
          ·go_simp
           constructor
           ·rfl
           ·rfl
          refine hK.out _ _ ?_
          clear hK K
          refine norm_ (a' := ?_) ?_ ?_
          rotate_left
          ·show Act.put _ (some 80) _ = _
           simp only [sp_]
           rfl
          refine last_ (i := 16) (N := some 81) #[true, true, true, true, true, true, true, true, true, true, true, true, true, true, true, true, true, false] rfl rfl (one_of HT_.out kr_) (by decide) (fun K hK => ?_)
          refine Kd.R_append_step k49 w.heap.size (by rfl) (.tmp 65) (.tmp 80) 24 49 (.agg #[(.int .i64 0), (.int .i64 0)]) 16 rfl Try.underlying24 info49 rfl (by decide) (by omega) (.slice (some ad319) t286.length co81) t286 (⟨wrap64 (((rd_T49 t286 0).f0) + 3), wrap64 (((rd_T49 t286 (ji72)).f1) + 2)⟩ : S49) [.int .i64 (wrap64 (((rd_T49 t286 0).f0) + 3)), .int .i64 (wrap64 (((rd_T49 t286 (ji72)).f1) + 2))] (fun k_ => some k_ ≠ (.slice Ao79 t275.length co79 : Value).ownBlock) (fun _ => False) rfl rfl ?aP (fun _ hk => hk.elim) ?aF ?aO (Below.refl _ _) ?aS ?aL ?_
          (case aP => exact k49_mkM _ _ _ (⟨wrap64 (((rd_T49 t286 0).f0) + 3), wrap64 (((rd_T49 t286 (ji72)).f1) + 2)⟩ : S49))
          (case aF => exact (fun k_ hk => Kd.fresh' (Kd.R_lt (ra_ HO277.out)) k_ hk))
          (case aO => exact (by (with_reducible repeat (first | apply Kd.R_alloc | apply Kd.R_drewN | apply Kd.R_drew)); exact Kd.R_mono HO288.out (fun _ hk => hk.2)))
          (case aS => exact (keep_size (w := w) (g := g) (row := none) (kb0_)))
          (case aL => have := LMc75.out; omega)
          intro v322 w85 ho hb hg hat
          rw [← Ny321.out] at ho
          have n0_ := Aside0.mk (IsS62.grown (is62_ HI0.out) hg (IsS62.own_ne HI0.out HO288.out (by decide)))
          have n1_ := Aside0.mk (Kd.R_after (ok := (fun _ => True)) (ra_ HO277.out) hg hat)
          have n2_ := Aside0.mk (below_weaken (by repeat (first | (with_reducible first | exact HB.out | apply below_alloc | apply pw_below_drewN | apply below_drew1 | refine below_set ?_ (IsS62.ge HI0.out)) | exact HB.out)) HL.out hb)
          have n3_ := Aside0.mk (KeepBut.trans (kb0_) (KeepBut.of_grown hg g) (Kd.R_base2 HO288.out))
          have n4_ := Aside0.mk (ho)
          clear HI0
          clear HO277
          clear HB
          clear HK
          clear HO288
          have HI0 := n0_
          have HO277 := n1_
          have HB := n2_
          have HK := n3_
          have HO323 := n4_
          clear n0_ n1_ n2_ n3_ n4_
          clear ho hb hg hat
          refine hK.out _ _ ?_
          clear hK K
          refine norm_ (a' := ?_) ?_ ?_
          rotate_left
          ·show Act.put _ (some 81) _ = _
           simp only [sp_]
           rfl
          refine pure_ (i := 17) (N := some 2) (v := ?_) (a' := ?_) #[true, true, true, true, true, true, true, true, true, true, true, true, true, true, true, true, true, true] rfl rfl (any_of HT_.out kr_) (fun _ _ _ h => h) (Or.inl ⟨by rfl, ?_⟩) ?_ ?_
          rotate_left
          ·intro w'
           go_simp
           with_reducible rfl
          rotate_left
          ·simp only [sp_]
           rfl
          refine done_ (done_of HT_.out kr_) ?_
          try go_wp2
          go_ret
          exact ⟨_, by first | rfl | (simp [errW_none, errW_some] <;> rfl) | (simp only [← hji72]; first | rfl | (simp [errW_none, errW_some] <;> rfl)) | (simp [*, errW_none, errW_some] <;> rfl), by (with_reducible repeat (first | apply Kd.R_alloc | apply Kd.R_drewN | apply Kd.R_drew)); exact Kd.R_mono HO323.out (fun _ hk => trivial), is62_ HI0.out, by repeat (first | (with_reducible first | exact HB.out | apply below_alloc | apply pw_below_drewN | apply below_drew1 | refine below_set ?_ (IsS62.ge HI0.out)) | exact HB.out), kb0_⟩
         ·rw [if_neg c75] at H
          exact absurd H (by simp)
        ·rw [if_neg c74] at H
         exact absurd H (by simp)
       ·rw [if_neg c73] at H
        exact absurd H (by simp)
      ·rw [if_neg c71] at H
       exact absurd H (by simp)
     ·rw [if_neg c70] at H
      have c70b0 : (t292 == 4) = false := beq_eq_false_iff_ne.mpr c70
      have c70b1 : (t292 != 4) = true := bne_iff_ne.mpr c70
      by_cases c86 : t292 = 5
      ·rw [if_pos c86] at H
       have c86b0 : (t292 == 5) = true := beq_iff_eq.mpr c86
       have c86b1 : (t292 != 5) = false := bne_eq_false_iff_eq.mpr c86
       clear c86
       by_cases c87 : 0 < (t286.length : Int)
       ·rw [if_pos c87] at H
        have c87b0 : decide (0 < (t286.length : Int)) = true := decide_eq_true c87
        have c87b1 : decide (0 < t286.length) = true := decide_eq_true (by omega)
        clear c87
        obtain ⟨ji88, hji88⟩ : ∃ j_ : Int, (wrap64 ((t286.length : Int) - 1)) = j_ := ⟨_, rfl⟩
        replace H : (if 0 ≤ (ji88) then (if (ji88) < (t286.length : Int) then (if t286.length < 8796093022208 then (some ((t286 ++ [(⟨wrap64 (((rd_T49 t286 0).f0) + 3), wrap64 (((rd_T49 t286 (ji88)).f1) + 2)⟩ : S49)]), t293, t294)) else (none)) else (none)) else (none)) = some (r1, r2, r3) := by first | (rw [hji88] at H; exact H) | (simp only [hji88] at H ⊢; exact H)
        (try rw [hji88] at A2)
        (try rw [hji88] at A3)
        (try rw [hji88] at A4)
        (try rw [hji88] at A5)
        (try rw [hji88] at A6)
        (try rw [hji88] at A7)
        have hji88w : (IntKind.i64.wrap ((t286.length : Int) - 1)) = ji88 := (i64_w _).trans hji88
        by_cases c89 : 0 ≤ (ji88)
        ·rw [if_pos c89] at H
         have c89b0 : decide (0 ≤ (ji88)) = true := decide_eq_true c89
         clear c89
         by_cases c90 : (ji88) < (t286.length : Int)
         ·rw [if_pos c90] at H
          have c90b0 : decide ((ji88) < (t286.length : Int)) = true := decide_eq_true c90
          clear c90
          by_cases c91 : t286.length < 8796093022208
          ·rw [if_pos c91] at H
           have LMc91 := Aside0.mk c91
           clear c91
           obtain ⟨y326, hy326⟩ : ∃ y_ : List (S49), y_ = (t286 ++ [(⟨wrap64 (((rd_T49 t286 0).f0) + 3), wrap64 (((rd_T49 t286 (ji88)).f1) + 2)⟩ : S49)]) := ⟨_, rfl⟩
           replace H : (some (y326, t293, t294)) = some (r1, r2, r3) := by first | (rw [hy326]; with_reducible exact H) | (have H2_ := (Option.bind_some _ _).symm.trans H; rw [hy326]; with_reducible exact H2_) | (have H2_ := (Option.bind_some _ _).symm.trans H; with_reducible exact H2_) | with_reducible exact H | (rw [hy326]; exact H) | exact H
           have Ny326 := Aside0.mk hy326
           clear hy326
           simp only [Option.some.injEq, Prod.mk.injEq] at H
           obtain ⟨rfl, rfl, rfl⟩ := H
           go_enter Try.func30, Try.ntmps30
           try go_wp2_with (first | ((with_reducible refine gate_callee (f := 46) rfl ?_); refine goesL_ (some 8) rfl rfl Try.func46 kr_ rfl #[.pointer (some ⟨g, 0, none⟩), .int .i64 8] rfl ta_ ?_; (with_reducible refine (spec_l02DrawPoly.calls k g s0_0 s0_1 s0_2 8 t275 t278 t279 w0 _ ?side1 ?side2 A2.out).mono ?_); (case side1 => exact is62_ HI0.out); (case side2 => repeat (first | (with_reducible first | exact HB.out | apply below_alloc | apply pw_below_drewN | apply below_drew1 | refine below_set ?_ (IsS62.ge HI0.out)) | exact HB.out)); rintro e w92 ⟨v276, rfl, ho0, hi, hb, hk⟩; refine ⟨_, rfl, ?_⟩; have n0_ := Aside0.mk (Kd.R_lower ho0 (keep_size (w := w) (g := g) (row := none) (kb0_))); have n1_ := Aside0.mk (KeepBut.trans (kb0_) hk (.inl rfl)); have n2_ := Aside0.mk (hb); have n3_ := Aside0.mk (hi); clear HK; clear HB; clear HI0; have HO277 := n0_; have HK := n1_; have HB := n2_; have HI0 := n3_; clear n0_ n1_ n2_ n3_; (try clear hb); (try clear hb2); (try clear hk); (try clear hi); (try clear ho0)) | ((with_reducible refine gate_callee (f := 31) rfl ?_); refine goesL_ (some 10) rfl rfl Try.func31 kr_ rfl #[.pointer (some ⟨g, 0, none⟩), .int .i64 9] rfl ta_ ?_; (with_reducible refine (spec_l01Next.calls g s0_0 t278 t279 9 t280 t281 t282 w0 _ ?side1 ?side2 A3.out).mono ?_); (case side1 => exact is62_ HI0.out); (case side2 => repeat (first | (with_reducible first | exact HB.out | apply below_alloc | apply pw_below_drewN | apply below_drew1 | refine below_set ?_ (IsS62.ge HI0.out)) | exact HB.out)); rintro e w93 ⟨rfl, hi, hb, hk⟩; refine ⟨_, rfl, ?_⟩; have n0_ := Aside0.mk (Kd.R_mono (Kd.R_keep (IsS62.apart (show IsS62 w0 _ g s0_0 t278 t279 from is62_ HI0.out) (ra_ HO277.out) (by decide)) hk (fun _ h => h.2)) (fun _ h => h.1)); have n1_ := Aside0.mk (KeepBut.trans (kb0_) hk (.inl rfl)); have n2_ := Aside0.mk (hb); have n3_ := Aside0.mk (hi); clear HO277; clear HK; clear HB; clear HI0; have HO277 := n0_; have HK := n1_; have HB := n2_; have HI0 := n3_; clear n0_ n1_ n2_ n3_; (try clear hb); (try clear hb2); (try clear hk); (try clear hi)) | ((with_reducible refine gate_callee (f := 31) rfl ?_); refine goesL_ (some 13) rfl rfl Try.func31 kr_ rfl #[.pointer (some ⟨g, 0, none⟩), .int .i64 9] rfl ta_ ?_; (with_reducible refine (spec_l01Next.calls g s0_0 t281 t282 9 t283 t284 t285 w0 _ ?side1 ?side2 A4.out).mono ?_); (case side1 => exact is62_ HI0.out); (case side2 => repeat (first | (with_reducible first | exact HB.out | apply below_alloc | apply pw_below_drewN | apply below_drew1 | refine below_set ?_ (IsS62.ge HI0.out)) | exact HB.out)); rintro e w94 ⟨rfl, hi, hb, hk⟩; refine ⟨_, rfl, ?_⟩; have n0_ := Aside0.mk (Kd.R_mono (Kd.R_keep (IsS62.apart (show IsS62 w0 _ g s0_0 t281 t282 from is62_ HI0.out) (ra_ HO277.out) (by decide)) hk (fun _ h => h.2)) (fun _ h => h.1)); have n1_ := Aside0.mk (KeepBut.trans (kb0_) hk (.inl rfl)); have n2_ := Aside0.mk (hb); have n3_ := Aside0.mk (hi); clear HO277; clear HK; clear HB; clear HI0; have HO277 := n0_; have HK := n1_; have HB := n2_; have HI0 := n3_; clear n0_ n1_ n2_ n3_; (try clear hb); (try clear hb2); (try clear hk); (try clear hi); obtain ⟨Ao95, co95, eo95⟩ := Kd.R_slice HO277.out; subst eo95) | ((with_reducible refine gate_callee (f := 45) rfl ?_); refine goesL_ (some 15) rfl rfl Try.func45 kr_ rfl #[.slice Ao95 t275.length co95, .int .i64 (wrap64 (t280 - 4)), .int .i64 (wrap64 (t283 - 4))] rfl ta_ ?_; (with_reducible refine (spec_l02Move.calls k _ _ t275 (wrap64 (t280 - 4)) (wrap64 (t283 - 4)) t286 _ ?side1 ?side2 A5.out).mono ?_); (case side1 => exact ca_ (Kd.R_reads' HO277.out).2.2); (case side2 => exact (Kd.R_reads' HO277.out).2.1); rintro e w96 ⟨v287, rfl, ho0, hb⟩; refine ⟨_, rfl, ?_⟩; have n0_ := Aside0.mk (Kd.R_elder' (ra_ HO277.out) (Kd.R_base ho0) hb); have n1_ := Aside0.mk (Kd.R_lower (Kd.R_new' ho0 (Kd.R_lt (ra_ HO277.out))) (keep_size (w := w) (g := g) (row := none) (kb0_))); have n2_ := Aside0.mk (IsS62.below (is62_ HI0.out) hb); have n3_ := Aside0.mk (KeepBut.trans (kb0_) (KeepBut.of_below hb g none) (.inl rfl)); have n4_ := Aside0.mk (below_step (by repeat (first | (with_reducible first | exact HB.out | apply below_alloc | apply pw_below_drewN | apply below_drew1 | refine below_set ?_ (IsS62.ge HI0.out)) | exact HB.out)) hb); clear HO277; clear HI0; clear HK; clear HB; have HO277 := n0_; have HO288 := n1_; have HI0 := n2_; have HK := n3_; have HB := n4_; clear n0_ n1_ n2_ n3_ n4_; (try clear hb); (try clear hb2); (try clear hk); (try clear hi); (try clear ho0); obtain ⟨Ao97, co97, eo97⟩ := Kd.R_slice HO288.out; subst eo97) | ((with_reducible refine gate_callee (f := 31) rfl ?_); refine goesL_ (some 19) rfl rfl Try.func31 kr_ rfl #[.pointer (some ⟨g, 0, none⟩), .int .i64 (t286.length : Int)] rfl ta_ ?_; (with_reducible refine (spec_l01Next.calls g s0_0 t284 t285 (t286.length : Int) t289 t290 t291 w0 _ ?side1 ?side2 A6.out).mono ?_); (case side1 => exact is62_ HI0.out); (case side2 => repeat (first | (with_reducible first | exact HB.out | apply below_alloc | apply pw_below_drewN | apply below_drew1 | refine below_set ?_ (IsS62.ge HI0.out)) | exact HB.out)); rintro e w98 ⟨rfl, hi, hb, hk⟩; refine ⟨_, rfl, ?_⟩; have n0_ := Aside0.mk (Kd.R_mono (Kd.R_keep (IsS62.apart (show IsS62 w0 _ g s0_0 t284 t285 from is62_ HI0.out) (ra_ HO277.out) (by decide)) hk (fun _ h => h.2)) (fun _ h => h.1)); have n1_ := Aside0.mk (Kd.R_mono (Kd.R_keep (IsS62.apart (show IsS62 w0 _ g s0_0 t284 t285 from is62_ HI0.out) (ra_ HO288.out) (by decide)) hk (fun _ h => h.2)) (fun _ h => h.1)); have n2_ := Aside0.mk (KeepBut.trans (kb0_) hk (.inl rfl)); have n3_ := Aside0.mk (hb); have n4_ := Aside0.mk (hi); clear HO277; clear HO288; clear HK; clear HB; clear HI0; have HO277 := n0_; have HO288 := n1_; have HK := n2_; have HB := n3_; have HI0 := n4_; clear n0_ n1_ n2_ n3_ n4_; (try clear hb); (try clear hb2); (try clear hk); (try clear hi)) | ((with_reducible refine gate_callee (f := 31) rfl ?_); refine goesL_ (some 21) rfl rfl Try.func31 kr_ rfl #[.pointer (some ⟨g, 0, none⟩), .int .i64 24] rfl ta_ ?_; (with_reducible refine (spec_l01Next.calls g s0_0 t290 t291 24 t292 t293 t294 w0 _ ?side1 ?side2 A7.out).mono ?_); (case side1 => exact is62_ HI0.out); (case side2 => repeat (first | (with_reducible first | exact HB.out | apply below_alloc | apply pw_below_drewN | apply below_drew1 | refine below_set ?_ (IsS62.ge HI0.out)) | exact HB.out)); rintro e w99 ⟨rfl, hi, hb, hk⟩; refine ⟨_, rfl, ?_⟩; have n0_ := Aside0.mk (Kd.R_mono (Kd.R_keep (IsS62.apart (show IsS62 w0 _ g s0_0 t290 t291 from is62_ HI0.out) (ra_ HO277.out) (by decide)) hk (fun _ h => h.2)) (fun _ h => h.1)); have n1_ := Aside0.mk (Kd.R_mono (Kd.R_keep (IsS62.apart (show IsS62 w0 _ g s0_0 t290 t291 from is62_ HI0.out) (ra_ HO288.out) (by decide)) hk (fun _ h => h.2)) (fun _ h => h.1)); have n2_ := Aside0.mk (KeepBut.trans (kb0_) hk (.inl rfl)); have n3_ := Aside0.mk (hb); have n4_ := Aside0.mk (hi); clear HO277; clear HO288; clear HK; clear HB; clear HI0; have HO277 := n0_; have HO288 := n1_; have HK := n2_; have HB := n3_; have HI0 := n4_; clear n0_ n1_ n2_ n3_ n4_; (try clear hb); (try clear hb2); (try clear hk); (try clear hi)))
           have n0_ := Aside0.mk (Kd.R_drew HO277.out)
           have n1_ := Aside0.mk (Kd.R_drew HO288.out)
           have n2_ := Aside0.mk (IsS62.drew HI0.out)
           have n3_ := Aside0.mk (keep_drew HK.out)
           have n4_ := Aside0.mk (below_drew1 HB.out)
           clear HO277
           clear HO288
           clear HI0
           clear HK
           clear HB
           have HO277 := n0_
           have HO288 := n1_
           have HI0 := n2_
           have HK := n3_
           have HB := n4_
           clear n0_ n1_ n2_ n3_ n4_
           have p324 : 0 ≤ (0 : Int) := (by omega)
           have q324 : 0 < (t286.length : Int) := od_
           obtain ⟨ad324, e324, hx324_0, hx324_1⟩ := at_T49 (Kd.R_reads' HO288.out).2.2 0 p324 q324
           cases e324
           have qi324 : (0 < t286.length) = True := eq_true (by omega)
           (try rw [show ((0 : Int)).toNat = 0 from rfl] at hx324_0)
           (try rw [show 0 * 2 = 0 from rfl] at hx324_0)
           (try rw [Addr.add_zero'] at hx324_0)
           (try rw [show ((0 : Int)).toNat = 0 from rfl] at hx324_1)
           (try rw [show 0 * 2 = 0 from rfl] at hx324_1)
           (try rw [Addr.add_zero'] at hx324_1)
           replace p324 := eq_true p324
           replace q324 := eq_true q324
           have p325 : 0 ≤ ((ji88) : Int) := od_
           have q325 : (ji88) < (t286.length : Int) := od_
           obtain ⟨ad325, e325, hx325_0, hx325_1⟩ := at_T49 (Kd.R_reads' HO288.out).2.2 (ji88) p325 q325
           obtain rfl : ad324 = ad325 := (by injection e325)
           replace p325 := eq_true p325
           replace q325 := eq_true q325
           refine start_ (n := 18) (S := fun w' => w'.cell? ad324 = some (.int .i64 ((rd_T49 t286 0).f0)) ∧ w'.cell? ⟨ad324.block, ad324.off + 1, none⟩ = some (.int .i64 ((rd_T49 t286 0).f1)) ∧ w'.cell? (ad324.add (((ji88)).toNat * 2)) = some (.int .i64 ((rd_T49 t286 (ji88)).f0)) ∧ w'.cell? ⟨(ad324.add (((ji88)).toNat * 2)).block, (ad324.add (((ji88)).toNat * 2)).off + 1, none⟩ = some (.int .i64 ((rd_T49 t286 (ji88)).f1))) (ds := [15, 16]) #[false, false, false, false, false, false, false, false, false, false, false, false, false, false, false, false, false, false] kr_ rfl rfl ⟨hx324_0, hx324_1, hx325_0, hx325_1⟩ (fun hHeld => ?_); refine with_tabW spec_l02Draw.tab20 spec_l02Draw.bits20 (fun HT_ HW_ => ?_)
           generalize w99.drew = w100 at HO277 HO288 HI0 HK HB hx324_0 hx324_1 hx325_0 hx325_1 hHeld ⊢
           refine pure_ (i := 0) (N := some 65) (v := ?_) (a' := ?_) #[true, false, false, false, false, false, false, false, false, false, false, false, false, false, false, false, false, false] rfl rfl (any_of HT_.out kr_) (fun _ _ _ h => h) (Or.inl ⟨by rfl, ?_⟩) ?_ ?_
           rotate_left
           ·intro w'
            go_simp
            with_reducible rfl
           rotate_left
           ·simp only [sp_]
            rfl
           refine pure_ (i := 1) (N := some 66) (v := ?_) (a' := ?_) #[true, true, false, false, false, false, false, false, false, false, false, false, false, false, false, false, false, false] rfl rfl (any_of HT_.out kr_) (fun _ _ _ h => h) (Or.inl ⟨by rfl, ?_⟩) ?_ ?_
           rotate_left
           ·intro w'
            go_simp
            with_reducible rfl
           rotate_left
           ·simp only [sp_]
            rfl
           refine pure_ (i := 2) (N := some 67) (v := ?_) (a' := ?_) #[true, true, true, false, false, false, false, false, false, false, false, false, false, false, false, false, false, false] rfl rfl (any_of HT_.out kr_) (fun _ _ _ h => h) (Or.inl ⟨by rfl, ?_⟩) ?_ ?_
           rotate_left
           ·intro w'
            go_simp
            with_reducible rfl
           rotate_left
           ·simp only [sp_]
            rfl
           refine pure_ (i := 3) (N := some 68) (v := ?_) (a' := ?_) #[true, true, true, true, false, false, false, false, false, false, false, false, false, false, false, false, false, false] rfl rfl (any_of HT_.out kr_) (fun _ _ _ h => h) (Or.inl ⟨by rfl, ?_⟩) ?_ ?_
           rotate_left
           ·intro w'
            go_simp
            with_reducible rfl
           rotate_left
           ·simp only [sp_]
            rfl
           refine pure_ (i := 6) (N := some 71) (v := ?_) (a' := ?_) #[true, true, true, true, false, false, true, false, false, false, false, false, false, false, false, false, false, false] rfl rfl (any_of HT_.out kr_) (fun _ _ _ h => h) (Or.inl ⟨by rfl, ?_⟩) ?_ ?_
           rotate_left
           ·intro w'
            go_simp
            with_reducible rfl
           rotate_left
           ·simp only [sp_]
            rfl
           refine pure_ (i := 7) (N := some 72) (v := ?_) (a' := ?_) #[true, true, true, true, false, false, true, true, false, false, false, false, false, false, false, false, false, false] rfl rfl (any_of HT_.out kr_) (fun _ _ _ h => h) (Or.inl ⟨by rfl, ?_⟩) ?_ ?_
           rotate_left
           ·intro w'
            go_simp
            with_reducible rfl
           rotate_left
           ·simp only [sp_]
            rfl
           refine pure_ (i := 8) (N := some 73) (v := ?_) (a' := ?_) #[true, true, true, true, false, false, true, true, true, false, false, false, false, false, false, false, false, false] rfl rfl (any_of HT_.out kr_) (fun _ _ _ h => h) (Or.inl ⟨by rfl, ?_⟩) ?_ ?_
           rotate_left
           ·intro w'
            go_simp
            with_reducible rfl
           rotate_left
           ·simp only [sp_]
            rfl
           refine pure_ (i := 9) (N := some 74) (v := ?_) (a' := ?_) #[true, true, true, true, false, false, true, true, true, true, false, false, false, false, false, false, false, false] rfl rfl (any_of HT_.out kr_) (fun _ _ _ h => h) (Or.inl ⟨by rfl, ?_⟩) ?_ ?_
           rotate_left
           ·intro w'
            go_simp
            with_reducible rfl
           rotate_left
           ·simp only [sp_]
            rfl
           refine pure_ (i := 10) (N := some 75) (v := ?_) (a' := ?_) #[true, true, true, true, false, false, true, true, true, true, true, false, false, false, false, false, false, false] rfl rfl (any_of HT_.out kr_) (fun _ _ _ h => h) (Or.inl ⟨by rfl, ?_⟩) ?_ ?_
           rotate_left
           ·intro w'
            go_simp
            with_reducible rfl
           rotate_left
           ·simp only [sp_]
            rfl
           refine pure_ (i := 11) (N := some 76) (v := ?_) (a' := ?_) #[true, true, true, true, false, false, true, true, true, true, true, true, false, false, false, false, false, false] rfl rfl (any_of HT_.out kr_) (fun _ _ _ h => h) (Or.inl ⟨by rfl, ?_⟩) ?_ ?_
           rotate_left
           ·intro w'
            go_simp
            with_reducible rfl
           rotate_left
           ·simp only [sp_]
            rfl
           refine take_ (i := 4) (N := some 69) (v := ?_) (a' := ?_) #[true, true, true, true, true, false, true, true, true, true, true, true, false, false, false, false, false, false] rfl rfl (take_ofW HT_.out HW_.out kr_) (fun _ _ _ h => h) (Or.inl ⟨by rfl, ?_⟩) hHeld ?_ ?_
           rotate_left
           ·rintro w' ⟨s0, s1, s2, s3⟩
            go_simp
            with_reducible rfl
           rotate_left
           ·simp only [sp_]
            rfl
           refine pure_ (i := 5) (N := some 70) (v := ?_) (a' := ?_) #[true, true, true, true, true, true, true, true, true, true, true, true, false, false, false, false, false, false] rfl rfl (any_of HT_.out kr_) (fun _ _ _ h => h) (Or.inl ⟨by rfl, ?_⟩) ?_ ?_
           rotate_left
           ·intro w'
            go_simp
            with_reducible rfl
           rotate_left
           ·simp only [sp_]
            rfl
           refine take_ (i := 12) (N := some 77) (v := ?_) (a' := ?_) #[true, true, true, true, true, true, true, true, true, true, true, true, true, false, false, false, false, false] rfl rfl (take_ofW HT_.out HW_.out kr_) (fun _ _ _ h => h) (Or.inl ⟨by rfl, ?_⟩) hHeld ?_ ?_
           rotate_left
           ·rintro w' ⟨s0, s1, s2, s3⟩
            go_simp
            with_reducible rfl
           rotate_left
           ·simp only [sp_]
            rfl
           refine pure_ (i := 13) (N := some 78) (v := ?_) (a' := ?_) #[true, true, true, true, true, true, true, true, true, true, true, true, true, true, false, false, false, false] rfl rfl (any_of HT_.out kr_) (fun _ _ _ h => h) (Or.inl ⟨by rfl, ?_⟩) ?_ ?_
           rotate_left
           ·intro w'
            go_simp
            with_reducible rfl
           rotate_left
           ·simp only [sp_]
            rfl
           refine pure_ (i := 14) (N := some 79) (v := ?_) (a' := ?_) #[true, true, true, true, true, true, true, true, true, true, true, true, true, true, true, false, false, false] rfl rfl (any_of HT_.out kr_) (fun _ _ _ h => h) (Or.inl ⟨by rfl, ?_⟩) ?_ ?_
           rotate_left
           ·intro w'
            go_simp
            with_reducible rfl
           rotate_left
           ·simp only [sp_]
            rfl
           refine last_ (i := 15) (N := some 80) #[true, true, true, true, true, true, true, true, true, true, true, true, true, true, true, true, false, false] rfl rfl (one_of HT_.out kr_) (by decide) (fun K hK => ?_)
           refine value_ (w1 := ?_) (v := ?_) (by rfl) rfl ?_ ?_
           rotate_left 2
           ·go_simp
            constructor
            ·rfl
            ·rfl
           refine hK.out _ _ ?_
           clear hK K
           refine norm_ (a' := ?_) ?_ ?_
           rotate_left
           ·show Act.put _ (some 80) _ = _
            simp only [sp_]
            rfl
           refine last_ (i := 16) (N := some 81) #[true, true, true, true, true, true, true, true, true, true, true, true, true, true, true, true, true, false] rfl rfl (one_of HT_.out kr_) (by decide) (fun K hK => ?_)
           refine Kd.R_append_step k49 w.heap.size (by rfl) (.tmp 65) (.tmp 80) 24 49 (.agg #[(.int .i64 0), (.int .i64 0)]) 16 rfl Try.underlying24 info49 rfl (by decide) (by omega) (.slice (some ad324) t286.length co97) t286 (⟨wrap64 (((rd_T49 t286 0).f0) + 3), wrap64 (((rd_T49 t286 (ji88)).f1) + 2)⟩ : S49) [.int .i64 (wrap64 (((rd_T49 t286 0).f0) + 3)), .int .i64 (wrap64 (((rd_T49 t286 (ji88)).f1) + 2))] (fun k_ => some k_ ≠ (.slice Ao95 t275.length co95 : Value).ownBlock) (fun _ => False) rfl rfl ?aP (fun _ hk => hk.elim) ?aF ?aO (Below.refl _ _) ?aS ?aL ?_
           (case aP => exact k49_mkM _ _ _ (⟨wrap64 (((rd_T49 t286 0).f0) + 3), wrap64 (((rd_T49 t286 (ji88)).f1) + 2)⟩ : S49))
           (case aF => exact (fun k_ hk => Kd.fresh' (Kd.R_lt (ra_ HO277.out)) k_ hk))
           (case aO => exact (by (with_reducible repeat (first | apply Kd.R_alloc | apply Kd.R_drewN | apply Kd.R_drew)); exact Kd.R_mono HO288.out (fun _ hk => hk.2)))
           (case aS => exact (keep_size (w := w) (g := g) (row := none) (kb0_)))
           (case aL => have := LMc91.out; omega)
           intro v327 w101 ho hb hg hat
           rw [← Ny326.out] at ho
           have n0_ := Aside0.mk (IsS62.grown (is62_ HI0.out) hg (IsS62.own_ne HI0.out HO288.out (by decide)))
           have n1_ := Aside0.mk (Kd.R_after (ok := (fun _ => True)) (ra_ HO277.out) hg hat)
           have n2_ := Aside0.mk (below_weaken (by repeat (first | (with_reducible first | exact HB.out | apply below_alloc | apply pw_below_drewN | apply below_drew1 | refine below_set ?_ (IsS62.ge HI0.out)) | exact HB.out)) HL.out hb)
           have n3_ := Aside0.mk (KeepBut.trans (kb0_) (KeepBut.of_grown hg g) (Kd.R_base2 HO288.out))
           have n4_ := Aside0.mk (ho)
           clear HI0
           clear HO277
           clear HB
           clear HK
           clear HO288
           have HI0 := n0_
           have HO277 := n1_
           have HB := n2_
           have HK := n3_
           have HO328 := n4_
           clear n0_ n1_ n2_ n3_ n4_
           clear ho hb hg hat
           refine hK.out _ _ ?_
           clear hK K
           refine norm_ (a' := ?_) ?_ ?_
           rotate_left
           ·show Act.put _ (some 81) _ = _
            simp only [sp_]
            rfl
           refine pure_ (i := 17) (N := some 2) (v := ?_) (a' := ?_) #[true, true, true, true, true, true, true, true, true, true, true, true, true, true, true, true, true, true] rfl rfl (any_of HT_.out kr_) (fun _ _ _ h => h) (Or.inl ⟨by rfl, ?_⟩) ?_ ?_
           rotate_left
           ·intro w'
            go_simp
            with_reducible rfl
           rotate_left
           ·simp only [sp_]
            rfl
           refine done_ (done_of HT_.out kr_) ?_
           try go_wp2
           go_ret
           exact ⟨_, by first | rfl | (simp [errW_none, errW_some] <;> rfl) | (simp only [← hji88]; first | rfl | (simp [errW_none, errW_some] <;> rfl)) | (simp [*, errW_none, errW_some] <;> rfl), by (with_reducible repeat (first | apply Kd.R_alloc | apply Kd.R_drewN | apply Kd.R_drew)); exact Kd.R_mono HO328.out (fun _ hk => trivial), is62_ HI0.out, by repeat (first | (with_reducible first | exact HB.out | apply below_alloc | apply pw_below_drewN | apply below_drew1 | refine below_set ?_ (IsS62.ge HI0.out)) | exact HB.out), kb0_⟩
          ·rw [if_neg c91] at H
           exact absurd H (by simp)
         ·rw [if_neg c90] at H
          exact absurd H (by simp)
        ·rw [if_neg c89] at H
         exact absurd H (by simp)
       ·rw [if_neg c87] at H
        exact absurd H (by simp)
      ·rw [if_neg c86] at H
       have c86b0 : (t292 == 5) = false := beq_eq_false_iff_ne.mpr c86
       have c86b1 : (t292 != 5) = true := bne_iff_ne.mpr c86
       simp only [Option.some.injEq, Prod.mk.injEq] at H
       obtain ⟨rfl, rfl, rfl⟩ := H
       go_enter Try.func30, Try.ntmps30
       go_wp2_with (first | ((with_reducible refine gate_callee (f := 46) rfl ?_); refine goesL_ (some 8) rfl rfl Try.func46 kr_ rfl #[.pointer (some ⟨g, 0, none⟩), .int .i64 8] rfl ta_ ?_; (with_reducible refine (spec_l02DrawPoly.calls k g s0_0 s0_1 s0_2 8 t275 t278 t279 w0 _ ?side1 ?side2 A2.out).mono ?_); (case side1 => exact is62_ HI0.out); (case side2 => repeat (first | (with_reducible first | exact HB.out | apply below_alloc | apply pw_below_drewN | apply below_drew1 | refine below_set ?_ (IsS62.ge HI0.out)) | exact HB.out)); rintro e w102 ⟨v276, rfl, ho0, hi, hb, hk⟩; refine ⟨_, rfl, ?_⟩; have n0_ := Aside0.mk (Kd.R_lower ho0 (keep_size (w := w) (g := g) (row := none) (kb0_))); have n1_ := Aside0.mk (KeepBut.trans (kb0_) hk (.inl rfl)); have n2_ := Aside0.mk (hb); have n3_ := Aside0.mk (hi); clear HK; clear HB; clear HI0; have HO277 := n0_; have HK := n1_; have HB := n2_; have HI0 := n3_; clear n0_ n1_ n2_ n3_; (try clear hb); (try clear hb2); (try clear hk); (try clear hi); (try clear ho0)) | ((with_reducible refine gate_callee (f := 31) rfl ?_); refine goesL_ (some 10) rfl rfl Try.func31 kr_ rfl #[.pointer (some ⟨g, 0, none⟩), .int .i64 9] rfl ta_ ?_; (with_reducible refine (spec_l01Next.calls g s0_0 t278 t279 9 t280 t281 t282 w0 _ ?side1 ?side2 A3.out).mono ?_); (case side1 => exact is62_ HI0.out); (case side2 => repeat (first | (with_reducible first | exact HB.out | apply below_alloc | apply pw_below_drewN | apply below_drew1 | refine below_set ?_ (IsS62.ge HI0.out)) | exact HB.out)); rintro e w103 ⟨rfl, hi, hb, hk⟩; refine ⟨_, rfl, ?_⟩; have n0_ := Aside0.mk (Kd.R_mono (Kd.R_keep (IsS62.apart (show IsS62 w0 _ g s0_0 t278 t279 from is62_ HI0.out) (ra_ HO277.out) (by decide)) hk (fun _ h => h.2)) (fun _ h => h.1)); have n1_ := Aside0.mk (KeepBut.trans (kb0_) hk (.inl rfl)); have n2_ := Aside0.mk (hb); have n3_ := Aside0.mk (hi); clear HO277; clear HK; clear HB; clear HI0; have HO277 := n0_; have HK := n1_; have HB := n2_; have HI0 := n3_; clear n0_ n1_ n2_ n3_; (try clear hb); (try clear hb2); (try clear hk); (try clear hi)) | ((with_reducible refine gate_callee (f := 31) rfl ?_); refine goesL_ (some 13) rfl rfl Try.func31 kr_ rfl #[.pointer (some ⟨g, 0, none⟩), .int .i64 9] rfl ta_ ?_; (with_reducible refine (spec_l01Next.calls g s0_0 t281 t282 9 t283 t284 t285 w0 _ ?side1 ?side2 A4.out).mono ?_); (case side1 => exact is62_ HI0.out); (case side2 => repeat (first | (with_reducible first | exact HB.out | apply below_alloc | apply pw_below_drewN | apply below_drew1 | refine below_set ?_ (IsS62.ge HI0.out)) | exact HB.out)); rintro e w104 ⟨rfl, hi, hb, hk⟩; refine ⟨_, rfl, ?_⟩; have n0_ := Aside0.mk (Kd.R_mono (Kd.R_keep (IsS62.apart (show IsS62 w0 _ g s0_0 t281 t282 from is62_ HI0.out) (ra_ HO277.out) (by decide)) hk (fun _ h => h.2)) (fun _ h => h.1)); have n1_ := Aside0.mk (KeepBut.trans (kb0_) hk (.inl rfl)); have n2_ := Aside0.mk (hb); have n3_ := Aside0.mk (hi); clear HO277; clear HK; clear HB; clear HI0; have HO277 := n0_; have HK := n1_; have HB := n2_; have HI0 := n3_; clear n0_ n1_ n2_ n3_; (try clear hb); (try clear hb2); (try clear hk); (try clear hi); obtain ⟨Ao105, co105, eo105⟩ := Kd.R_slice HO277.out; subst eo105) | ((with_reducible refine gate_callee (f := 45) rfl ?_); refine goesL_ (some 15) rfl rfl Try.func45 kr_ rfl #[.slice Ao105 t275.length co105, .int .i64 (wrap64 (t280 - 4)), .int .i64 (wrap64 (t283 - 4))] rfl ta_ ?_; (with_reducible refine (spec_l02Move.calls k _ _ t275 (wrap64 (t280 - 4)) (wrap64 (t283 - 4)) t286 _ ?side1 ?side2 A5.out).mono ?_); (case side1 => exact ca_ (Kd.R_reads' HO277.out).2.2); (case side2 => exact (Kd.R_reads' HO277.out).2.1); rintro e w106 ⟨v287, rfl, ho0, hb⟩; refine ⟨_, rfl, ?_⟩; have n0_ := Aside0.mk (Kd.R_elder' (ra_ HO277.out) (Kd.R_base ho0) hb); have n1_ := Aside0.mk (Kd.R_lower (Kd.R_new' ho0 (Kd.R_lt (ra_ HO277.out))) (keep_size (w := w) (g := g) (row := none) (kb0_))); have n2_ := Aside0.mk (IsS62.below (is62_ HI0.out) hb); have n3_ := Aside0.mk (KeepBut.trans (kb0_) (KeepBut.of_below hb g none) (.inl rfl)); have n4_ := Aside0.mk (below_step (by repeat (first | (with_reducible first | exact HB.out | apply below_alloc | apply pw_below_drewN | apply below_drew1 | refine below_set ?_ (IsS62.ge HI0.out)) | exact HB.out)) hb); clear HO277; clear HI0; clear HK; clear HB; have HO277 := n0_; have HO288 := n1_; have HI0 := n2_; have HK := n3_; have HB := n4_; clear n0_ n1_ n2_ n3_ n4_; (try clear hb); (try clear hb2); (try clear hk); (try clear hi); (try clear ho0); obtain ⟨Ao107, co107, eo107⟩ := Kd.R_slice HO288.out; subst eo107) | ((with_reducible refine gate_callee (f := 31) rfl ?_); refine goesL_ (some 19) rfl rfl Try.func31 kr_ rfl #[.pointer (some ⟨g, 0, none⟩), .int .i64 (t286.length : Int)] rfl ta_ ?_; (with_reducible refine (spec_l01Next.calls g s0_0 t284 t285 (t286.length : Int) t289 t290 t291 w0 _ ?side1 ?side2 A6.out).mono ?_); (case side1 => exact is62_ HI0.out); (case side2 => repeat (first | (with_reducible first | exact HB.out | apply below_alloc | apply pw_below_drewN | apply below_drew1 | refine below_set ?_ (IsS62.ge HI0.out)) | exact HB.out)); rintro e w108 ⟨rfl, hi, hb, hk⟩; refine ⟨_, rfl, ?_⟩; have n0_ := Aside0.mk (Kd.R_mono (Kd.R_keep (IsS62.apart (show IsS62 w0 _ g s0_0 t284 t285 from is62_ HI0.out) (ra_ HO277.out) (by decide)) hk (fun _ h => h.2)) (fun _ h => h.1)); have n1_ := Aside0.mk (Kd.R_mono (Kd.R_keep (IsS62.apart (show IsS62 w0 _ g s0_0 t284 t285 from is62_ HI0.out) (ra_ HO288.out) (by decide)) hk (fun _ h => h.2)) (fun _ h => h.1)); have n2_ := Aside0.mk (KeepBut.trans (kb0_) hk (.inl rfl)); have n3_ := Aside0.mk (hb); have n4_ := Aside0.mk (hi); clear HO277; clear HO288; clear HK; clear HB; clear HI0; have HO277 := n0_; have HO288 := n1_; have HK := n2_; have HB := n3_; have HI0 := n4_; clear n0_ n1_ n2_ n3_ n4_; (try clear hb); (try clear hb2); (try clear hk); (try clear hi)) | ((with_reducible refine gate_callee (f := 31) rfl ?_); refine goesL_ (some 21) rfl rfl Try.func31 kr_ rfl #[.pointer (some ⟨g, 0, none⟩), .int .i64 24] rfl ta_ ?_; (with_reducible refine (spec_l01Next.calls g s0_0 t290 t291 24 t292 t293 t294 w0 _ ?side1 ?side2 A7.out).mono ?_); (case side1 => exact is62_ HI0.out); (case side2 => repeat (first | (with_reducible first | exact HB.out | apply below_alloc | apply pw_below_drewN | apply below_drew1 | refine below_set ?_ (IsS62.ge HI0.out)) | exact HB.out)); rintro e w109 ⟨rfl, hi, hb, hk⟩; refine ⟨_, rfl, ?_⟩; have n0_ := Aside0.mk (Kd.R_mono (Kd.R_keep (IsS62.apart (show IsS62 w0 _ g s0_0 t290 t291 from is62_ HI0.out) (ra_ HO277.out) (by decide)) hk (fun _ h => h.2)) (fun _ h => h.1)); have n1_ := Aside0.mk (Kd.R_mono (Kd.R_keep (IsS62.apart (show IsS62 w0 _ g s0_0 t290 t291 from is62_ HI0.out) (ra_ HO288.out) (by decide)) hk (fun _ h => h.2)) (fun _ h => h.1)); have n2_ := Aside0.mk (KeepBut.trans (kb0_) hk (.inl rfl)); have n3_ := Aside0.mk (hb); have n4_ := Aside0.mk (hi); clear HO277; clear HO288; clear HK; clear HB; clear HI0; have HO277 := n0_; have HO288 := n1_; have HK := n2_; have HB := n3_; have HI0 := n4_; clear n0_ n1_ n2_ n3_ n4_; (try clear hb); (try clear hb2); (try clear hk); (try clear hi)))
       go_ret
       exact ⟨_, er_, by (with_reducible repeat (first | apply Kd.R_alloc | apply Kd.R_drewN | apply Kd.R_drew)); exact Kd.R_mono HO288.out (fun _ hk => trivial), is62_ HI0.out, by repeat (first | (with_reducible first | exact HB.out | apply below_alloc | apply pw_below_drewN | apply below_drew1 | refine below_set ?_ (IsS62.ge HI0.out)) | exact HB.out), kb0_⟩

end Go.Proofs.Ytaaodakmelihaaa.PFnNames
