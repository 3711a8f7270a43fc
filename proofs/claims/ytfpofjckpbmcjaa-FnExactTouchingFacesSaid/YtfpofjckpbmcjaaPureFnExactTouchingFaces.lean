/- What is proved: for all arguments the law FnExactTouchingFaces answers true: the program's TouchingFaces and the reference's give the same two results. No condition beyond the kinds of the two numbers. -/
import Derived.Test.YtfpofjckpbmcjaaPFnExactTouchingFacesx1
namespace Go.Proofs.Ytfpofjckpbmcjaa.Pure
open Go.RowKit Go.Proofs.Ytfpofjckpbmcjaa.PFnExactTouchingFaces Go.Proofs.YtfpofjckpbmcjaaW.PrintWords Go.Proofs.YtfpofjckpbmcjaaW.PrintLast

theorem within_same (a b c : Int) : impl_within.f a b c = spec_l01In.f a b c := rfl
theorem touching_same (a b : Int) : impl_TouchingFaces.f a b = spec_TouchingFaces.f a b := rfl
theorem touching_some (a b : Int) : ∃ r, spec_TouchingFaces.f a b = some r := by
  unfold spec_TouchingFaces.f spec_l01In.f
  repeat' (first | exact ⟨_, rfl⟩ | (simp only [Option.bind_some]) | split)
theorem FnExactTouchingFaces : laws_FnExactTouchingFaces.Pure := by
  intro a b _ _
  obtain ⟨r, hr⟩ := touching_some a b
  unfold laws_FnExactTouchingFaces.f
  rw [touching_same, hr]
  simp

end Go.Proofs.Ytfpofjckpbmcjaa.Pure
