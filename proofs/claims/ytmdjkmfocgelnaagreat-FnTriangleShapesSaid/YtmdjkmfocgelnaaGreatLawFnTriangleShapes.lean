/- The row of the law FnTriangleShapes: its arguments opened, the printed walk, the pure statement of YtmdjkmfocgelnaaGreatPureFnTriangleShapes. Written by a program of mine (rowgen.py). No condition beyond the row's own. -/
import Derived.Test.YtmdjkmfocgelnaaGreatRows
import Derived.Test.YtmdjkmfocgelnaaGreatPFnTriangleShapesx21
import Derived.Test.YtmdjkmfocgelnaaGreatPureFnTriangleShapes
import Derived.Test.YtmdjkmfocgelnaaGreatOpens
import Derived.WalkKit
import Derived.ProofKit
import Derived.OpenShut
import Derived.ShutString
import Derived.ChangeOld
import Derived.Below
import Derived.SizedLaws
namespace Go.Proofs.YtmdjkmfocgelnaaGreat.fnTriangleShapes
open Go.ChangeShapes Go.WideShapes Go.ChangeAt Go.RowKit Go.Proofs.YtmdjkmfocgelnaaGreatW.PrintWords Go.Proofs.YtmdjkmfocgelnaaGreat.PFnTriangleShapes Go.Proofs.YtmdjkmfocgelnaaGreat.Opens
open Go.ChangeMaps (open_string shut_string)
set_option linter.unusedVariables false
theorem own : ownKnob Tryz.prog.godebug = none := by kernel_rfl
theorem laidOut : laidOutB Tryz.prog = true := by kernel_rfl
set_option maxRecDepth 100000 in
theorem lifted (os : Os) (started : os.Started) (H : Type) (enc : TypeId × Value → H) :
    ReturnsInHanded {} Tryz.checked os 3 .any (Rows.fnTriangleShapesSpec.pre6 enc Tryz.prog Tryz.f3 Rows.fnTriangleShapesRow.domain false) (Rows.fnTriangleShapesSpec.post enc Tryz.prog Tryz.f3 false true false false) := by
  refine returnsInHanded_of_change_sized (C := Tryz.checked) own started (by kernel_rfl) Tryz.func3
    (ChangeSpec.witness6 (enc := enc) (C := Tryz.checked) false ⟨#[], #[.slice none 0 0], []⟩ 8 (by kernel_rfl) (by kernel_rfl) (by kernel_rfl) (by kernel_rfl)) ?_
  intro W base args ds gs before hval0 hW hcnd hsz0 _
  have hsz : (DataW.weightsEach Tryz.prog (Tryz.f3.params.toList ++ Rows.fnTriangleShapesSpec.plain.varTypes Tryz.prog) (ds ++ gs)).all (· ≤ reachBytes) = true := hsz0
  have hval : ∀ (j : Nat) t v, Tryz.f3.params[j]? = some t → args[j]? = some v → Value.okWide Tryz.prog W .any base t v := hval0
  have hW' := hW
  obtain ⟨p, q, hA0, hV, rfl, hfz, hnd⟩ := hW
  have hA : DataW.TrodAll enc Tryz.prog W 0 (fun _ => true) true Tryz.f3.params.toList args.toList ds p := hA0
  rw [Tryz.params3] at hA hval hsz
  obtain ⟨v0, vs0, d0, ds0, p0, q0, hargs, rfl, rfl, h0, r0⟩ := trodAll_cons hA
  obtain ⟨rfl, rfl, rfl⟩ := trodAll_nil r0
  obtain rfl : args = #[v0] := by cases args; simp_all
  obtain ⟨rfl, rfl⟩ := trodVars_none hV
  have k0 := h0
  have lt0 : ∀ x ∈ p0, x.block < W.heap.size := by obtain ⟨m, hm⟩ := k0; exact DataW.trod_lt m _ _ _ hm
  obtain ⟨A0, c0, l0, rfl, hc0, hm0, hr0, hg0, hx0⟩ := arg_slice Tryz.underlying22 (opens_int Tryz.underlying5 (by kernel_rfl)) (hval 0 22 v0 rfl rfl) h0
  have y0 := reach_slice hsz (j := 0) (t := 22) rfl rfl Tryz.underlying22 (B := 1) (by kernel_rfl) hx0
  clear hA0 hval0 hsz0 hsz
  obtain ⟨k, hk⟩ := Pure.FnTriangleShapes l0 hm0 y0 hg0
  refine (laws_FnTriangleShapes.calls k A0 c0 l0 true W hr0 hc0 hk).mono fun e W' ⟨he, bel⟩ => ?_
  subst he
  exact ⟨_, rfl, _, _, _, [], _, [], hW', trodAll_mk1 (shut_bool Tryz.underlying4 _), (trodAll_cons_mk (Below.trod laidOut (by kernel_rfl) (of_decide_eq_true (by kernel_rfl)) k0 bel lt0) trodAll_mk0), rfl, bel.frame _, fun h => by cases h⟩
theorem over : Rows.fnTriangleShapesRow.holds Tryz.pinned (OpenSpec.ofChange Rows.fnTriangleShapesSpec) :=
  OpenClaim.holds_of_wide 3 Tryz.f3 rfl rfl rfl rfl rfl rfl rfl ⟨rfl, rfl, rfl, rfl, rfl⟩ rfl rfl rfl rfl rfl (by kernel_rfl) Tryz.func3 (by kernel_rfl)
    (of_decide_eq_true (by kernel_rfl)) (by unfold Func.isWrapper; first | (rw [if_pos (by decide +kernel)]; kernel_rfl) | (rw [if_neg (by decide +kernel)]; exact ⟨rfl, rfl⟩))
    (fun os started H enc _ => lifted os started H enc)
theorem proved : Rows.FnTriangleShapesSaid := over
end Go.Proofs.YtmdjkmfocgelnaaGreat.fnTriangleShapes
namespace Go.Proofs.YtmdjkmfocgelnaaGreat
/-- The row, under a short name, for the claim. -/
theorem fnTriangleShapes_holds : Rows.FnTriangleShapesSaid := fnTriangleShapes.proved
end Go.Proofs.YtmdjkmfocgelnaaGreat
