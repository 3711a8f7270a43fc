/- The row of the law FnExactGroupsText: its arguments opened, the printed walk, the pure statement of YtfpofjckpbmcjaaPureFnExactGroupsText. Written by a program of mine (rowgen.py). No condition beyond the row's own. -/
import Derived.Test.YtfpofjckpbmcjaaRows
import Derived.Test.YtfpofjckpbmcjaaPFnExactGroupsTextx14
import Derived.Test.YtfpofjckpbmcjaaPureFnExactGroupsText
import Derived.Test.YtfpofjckpbmcjaaOpens
import Derived.WalkKit
import Derived.ProofKit
import Derived.OpenShut
import Derived.ShutString
import Derived.ChangeOld
import Derived.Below
import Derived.SizedLaws
namespace Go.Proofs.Ytfpofjckpbmcjaa.fnExactGroupsText
open Go.ChangeShapes Go.WideShapes Go.ChangeAt Go.RowKit Go.Proofs.YtfpofjckpbmcjaaW.PrintWords Go.Proofs.Ytfpofjckpbmcjaa.PFnExactGroupsText Go.Proofs.Ytfpofjckpbmcjaa.Opens
open Go.ChangeMaps (open_string shut_string)
set_option linter.unusedVariables false
theorem own : ownKnob Try.prog.godebug = none := by kernel_rfl
theorem laidOut : laidOutB Try.prog = true := by kernel_rfl
theorem op59 : Opens Try.prog 59 k59 (fun x => ((Lit.int .i64 x.f0).wf = true ∧ (Lit.int .i64 x.f1).wf = true)) := opens_iso (fun x : S59 => (x.f0, x.f1)) (fun x => (⟨x.1, x.2⟩ : S59)) (fun _ => rfl) (opens_struct (P := Try.prog) (t := 59) Try.underlying59 (by kernel_rfl) (opensF_cons (opens_int Try.underlying2 (by kernel_rfl)) rfl (opensF_last (opens_int Try.underlying2 (by kernel_rfl)) rfl rfl)))
set_option maxRecDepth 100000 in
theorem lifted (os : Os) (started : os.Started) (H : Type) (enc : TypeId × Value → H) :
    ReturnsInHanded {} Try.checked os 6 .any (Rows.fnExactGroupsTextSpec.pre6 enc Try.prog Try.f6 Rows.fnExactGroupsTextRow.domain false) (Rows.fnExactGroupsTextSpec.post enc Try.prog Try.f6 false true false false) := by
  refine returnsInHanded_of_change_sized (C := Try.checked) own started (by kernel_rfl) Try.func6
    (ChangeSpec.witness6 (enc := enc) (C := Try.checked) false ⟨#[], #[.slice none 0 0, .slice none 0 0], []⟩ 8 (by kernel_rfl) (by kernel_rfl) (by kernel_rfl) (by kernel_rfl)) ?_
  intro W base args ds gs before hval0 hW hcnd hsz0 _
  have hsz : (DataW.weightsEach Try.prog (Try.f6.params.toList ++ Rows.fnExactGroupsTextSpec.plain.varTypes Try.prog) (ds ++ gs)).all (· ≤ reachBytes) = true := hsz0
  have hval : ∀ (j : Nat) t v, Try.f6.params[j]? = some t → args[j]? = some v → Value.okWide Try.prog W .any base t v := hval0
  have hW' := hW
  obtain ⟨p, q, hA0, hV, rfl, hfz, hnd⟩ := hW
  have hA : DataW.TrodAll enc Try.prog W 0 (fun _ => true) true Try.f6.params.toList args.toList ds p := hA0
  rw [Try.params6] at hA hval hsz
  obtain ⟨v0, vs0, d0, ds0, p0, q0, hargs, rfl, rfl, h0, r0⟩ := trodAll_cons hA
  obtain ⟨v1, vs1, d1, ds1, p1, q1, rfl, rfl, rfl, h1, r1⟩ := trodAll_cons r0
  obtain ⟨rfl, rfl, rfl⟩ := trodAll_nil r1
  obtain rfl : args = #[v0, v1] := by cases args; simp_all
  obtain ⟨rfl, rfl⟩ := trodVars_none hV
  have k0 := h0
  have lt0 : ∀ x ∈ p0, x.block < W.heap.size := by obtain ⟨m, hm⟩ := k0; exact DataW.trod_lt m _ _ _ hm
  obtain ⟨A0, c0, l0, rfl, hc0, hm0, hr0, hg0, hx0⟩ := arg_slice Try.underlying33 op59 (hval 0 33 v0 rfl rfl) h0
  have y0 := reach_slice hsz (j := 0) (t := 33) rfl rfl Try.underlying33 (B := 16) (by kernel_rfl) hx0
  have k1 := h1
  have lt1 : ∀ x ∈ p1, x.block < W.heap.size := by obtain ⟨m, hm⟩ := k1; exact DataW.trod_lt m _ _ _ hm
  obtain ⟨A1, c1, l1, rfl, hc1, hm1, hr1, hg1, hx1⟩ := arg_slice Try.underlying41 (opens_int Try.underlying2 (by kernel_rfl)) (hval 1 41 v1 rfl rfl) h1
  have y1 := reach_slice hsz (j := 1) (t := 41) rfl rfl Try.underlying41 (B := 8) (by kernel_rfl) hx1
  clear hA0 hval0 hsz0 hsz
  obtain ⟨k, hk⟩ := Pure.FnExactGroupsText l0 hm0 y0 hg0 l1 hm1 y1 hg1
  refine (laws_FnExactGroupsText.calls k A0 c0 l0 A1 c1 l1 true W hr0 hc0 hr1 hc1 hk).mono fun e W' ⟨he, bel⟩ => ?_
  subst he
  exact ⟨_, rfl, _, _, _, [], _, [], hW', trodAll_mk1 (shut_bool Try.underlying4 _), (trodAll_cons_mk (Below.trod laidOut (by kernel_rfl) (of_decide_eq_true (by kernel_rfl)) k0 bel lt0) (trodAll_cons_mk (Below.trod laidOut (by kernel_rfl) (of_decide_eq_true (by kernel_rfl)) k1 bel lt1) trodAll_mk0)), rfl, bel.frame _, fun h => by cases h⟩
theorem over : Rows.fnExactGroupsTextRow.holds Try.pinned (OpenSpec.ofChange Rows.fnExactGroupsTextSpec) :=
  OpenClaim.holds_of_wide 6 Try.f6 rfl rfl rfl rfl rfl rfl rfl ⟨rfl, rfl, rfl, rfl, rfl⟩ rfl rfl rfl rfl rfl (by kernel_rfl) Try.func6 (by kernel_rfl)
    (of_decide_eq_true (by kernel_rfl)) (by unfold Func.isWrapper; first | (rw [if_pos (by decide +kernel)]; kernel_rfl) | (rw [if_neg (by decide +kernel)]; exact ⟨rfl, rfl⟩))
    (fun os started H enc _ => lifted os started H enc)
theorem proved : Rows.FnExactGroupsTextSaid := over
end Go.Proofs.Ytfpofjckpbmcjaa.fnExactGroupsText
namespace Go.Proofs.Ytfpofjckpbmcjaa
/-- The row, under a short name, for the claim. -/
theorem fnExactGroupsText_holds : Rows.FnExactGroupsTextSaid := fnExactGroupsText.proved
end Go.Proofs.Ytfpofjckpbmcjaa
