/-
  No cell of these rows narrows 'for every input' (looked for: loops, veiled, ifaces, maps, wideKeys, modest, calm, conditions, laid).
  DERIVED. THE GIVEN ROWS OF THIS SEAT. 5 by the template 'for every input the law returns true; each argument reads behind the call as it read before'; 0 by the template 'total and deterministic' (their statements: YtfpofjckpbmcjaaTotals.lean).
  GIVEN WITH THE SEED: the statements are not yours to turn. If you find one false, say at which input.
  Laid BY PROGRAM, IN A SANDBOX (cutbox-rows.mjs): the forced cells as the released guide's own fill.sh prints them over the translation a11695cd8e3e418f… (all of the seat's roots in one cut). By AI agents, Wed Nov 11 2026. No macro, syntax, notation, axiom, sorry.
-/
import Derived.Test.YtfpofjckpbmcjaaChecked
import GoSem.Claim
import GoSem.ClaimJoined
import GoSem.ClaimMapViews
import Derived.JoinedTies
import Derived.KernelRfl
namespace Go.Proofs.Ytfpofjckpbmcjaa
/- THE CELL 'sum', in the pinned program and in every row, IS THE sha256 OF THE DUMP (.gsa) THAT YtfpofjckpbmcjaaProg.lean LOADS. Nothing in Lean hashes anything: it is a label: what it is worth is what the hold of that sum in a sandbox is worth. -/
noncomputable def Try.pinned : Pinned := { name := "ytfpofjckpbmcjaa", sum := "a11695cd8e3e418fa022ce51ca7cc088e80a95dc4bf2522c60cdb4bcc1f6c0cf", checked := Try.checked }
namespace Rows
def none {H : Type} : Left H := { results := [], args := [] }

/-- 'laws.FnExactTouchingFaces': WHATEVER THE INPUT: true; the input reads as it did. -/
def fnExactTouchingFacesSpec : ChangeSpec := { name := "fnExactTouchingFaces", fn := fun _ => fun
  | [d1, d2] => { results := [.lit (.bool true)], args := [d1, d2] }
  | _ => none }
def fnExactTouchingFacesRow : OpenClaim := { program := "ytfpofjckpbmcjaa", sum := "a11695cd8e3e418fa022ce51ca7cc088e80a95dc4bf2522c60cdb4bcc1f6c0cf", func := "loop.example/g00919/laws.FnExactTouchingFaces", spec := "fnExactTouchingFaces", plainKeys := false, apart := false }
def FnExactTouchingFacesSaid : Prop := fnExactTouchingFacesRow.holds Try.pinned (OpenSpec.ofChange fnExactTouchingFacesSpec)

/-- ITS FALSE NEIGHBOUR: 'it returns false'. Refute it at one input. -/
def fnExactTouchingFacesWrong : ChangeSpec := { name := "fnExactTouchingFaces", fn := fun _ => fun
  | [d1, d2] => { results := [.lit (.bool false)], args := [d1, d2] }
  | _ => none }
def FnExactTouchingFacesWrongFalsely : Prop := fnExactTouchingFacesRow.holds Try.pinned (OpenSpec.ofChange fnExactTouchingFacesWrong)

/-- 'laws.FnExactMergeProgress': WHATEVER THE INPUT: true; the input reads as it did. -/
def fnExactMergeProgressSpec : ChangeSpec := { name := "fnExactMergeProgress", fn := fun _ => fun
  | [d] => { results := [.lit (.bool true)], args := [d] }
  | _ => none }
def fnExactMergeProgressRow : OpenClaim := { program := "ytfpofjckpbmcjaa", sum := "a11695cd8e3e418fa022ce51ca7cc088e80a95dc4bf2522c60cdb4bcc1f6c0cf", func := "loop.example/g00919/laws.FnExactMergeProgress", spec := "fnExactMergeProgress", plainKeys := false, apart := false }
def FnExactMergeProgressSaid : Prop := fnExactMergeProgressRow.holds Try.pinned (OpenSpec.ofChange fnExactMergeProgressSpec)

/-- ITS FALSE NEIGHBOUR: 'it returns false'. Refute it at one input. -/
def fnExactMergeProgressWrong : ChangeSpec := { name := "fnExactMergeProgress", fn := fun _ => fun
  | [d] => { results := [.lit (.bool false)], args := [d] }
  | _ => none }
def FnExactMergeProgressWrongFalsely : Prop := fnExactMergeProgressRow.holds Try.pinned (OpenSpec.ofChange fnExactMergeProgressWrong)

/-- 'laws.FnExactOutlineText': WHATEVER THE INPUT: true; the input reads as it did. -/
def fnExactOutlineTextSpec : ChangeSpec := { name := "fnExactOutlineText", fn := fun _ => fun
  | [d] => { results := [.lit (.bool true)], args := [d] }
  | _ => none }
def fnExactOutlineTextRow : OpenClaim := { program := "ytfpofjckpbmcjaa", sum := "a11695cd8e3e418fa022ce51ca7cc088e80a95dc4bf2522c60cdb4bcc1f6c0cf", func := "loop.example/g00919/laws.FnExactOutlineText", spec := "fnExactOutlineText", inPlace := ["internal/abi.NoEscape", "internal/bytealg.MakeNoZero"], unfollowed := true, recurses := true, plainKeys := false, apart := false }
def FnExactOutlineTextSaid : Prop := fnExactOutlineTextRow.holds Try.pinned (OpenSpec.ofChange fnExactOutlineTextSpec)

/-- ITS FALSE NEIGHBOUR: 'it returns false'. Refute it at one input. -/
def fnExactOutlineTextWrong : ChangeSpec := { name := "fnExactOutlineText", fn := fun _ => fun
  | [d] => { results := [.lit (.bool false)], args := [d] }
  | _ => none }
def FnExactOutlineTextWrongFalsely : Prop := fnExactOutlineTextRow.holds Try.pinned (OpenSpec.ofChange fnExactOutlineTextWrong)

/-- 'laws.FnExactGroupsText': WHATEVER THE INPUT: true; the input reads as it did. -/
def fnExactGroupsTextSpec : ChangeSpec := { name := "fnExactGroupsText", fn := fun _ => fun
  | [d1, d2] => { results := [.lit (.bool true)], args := [d1, d2] }
  | _ => none }
def fnExactGroupsTextRow : OpenClaim := { program := "ytfpofjckpbmcjaa", sum := "a11695cd8e3e418fa022ce51ca7cc088e80a95dc4bf2522c60cdb4bcc1f6c0cf", func := "loop.example/g00919/laws.FnExactGroupsText", spec := "fnExactGroupsText", inPlace := ["internal/abi.NoEscape", "internal/bytealg.MakeNoZero"], unfollowed := true, recurses := true, plainKeys := false, apart := false }
def FnExactGroupsTextSaid : Prop := fnExactGroupsTextRow.holds Try.pinned (OpenSpec.ofChange fnExactGroupsTextSpec)

/-- ITS FALSE NEIGHBOUR: 'it returns false'. Refute it at one input. -/
def fnExactGroupsTextWrong : ChangeSpec := { name := "fnExactGroupsText", fn := fun _ => fun
  | [d1, d2] => { results := [.lit (.bool false)], args := [d1, d2] }
  | _ => none }
def FnExactGroupsTextWrongFalsely : Prop := fnExactGroupsTextRow.holds Try.pinned (OpenSpec.ofChange fnExactGroupsTextWrong)

/-- 'laws.FnExactSideCount': WHATEVER THE INPUT: true; the input reads as it did. -/
def fnExactSideCountSpec : ChangeSpec := { name := "fnExactSideCount", fn := fun _ => fun
  | [d1, d2] => { results := [.lit (.bool true)], args := [d1, d2] }
  | _ => none }
def fnExactSideCountRow : OpenClaim := { program := "ytfpofjckpbmcjaa", sum := "a11695cd8e3e418fa022ce51ca7cc088e80a95dc4bf2522c60cdb4bcc1f6c0cf", func := "loop.example/g00919/laws.FnExactSideCount", spec := "fnExactSideCount", inPlace := ["internal/abi.NoEscape", "internal/bytealg.MakeNoZero"], unfollowed := true, recurses := true, plainKeys := false, apart := false }
def FnExactSideCountSaid : Prop := fnExactSideCountRow.holds Try.pinned (OpenSpec.ofChange fnExactSideCountSpec)

/-- ITS FALSE NEIGHBOUR: 'it returns false'. Refute it at one input. -/
def fnExactSideCountWrong : ChangeSpec := { name := "fnExactSideCount", fn := fun _ => fun
  | [d1, d2] => { results := [.lit (.bool false)], args := [d1, d2] }
  | _ => none }
def FnExactSideCountWrongFalsely : Prop := fnExactSideCountRow.holds Try.pinned (OpenSpec.ofChange fnExactSideCountWrong)

/- THE SECOND FORM. 'bulk': how many values and letters a reading holds, each counted each time it is reached (what is shared counts as often as it is met; a slice's spare places count too). A statement '..UptoSaid' is the law's where the arguments, and the package variables that the reading takes, are together of bulk at most 1048576: NARROWER than '..Said'. Prove '..Said' where nothing that the law and all that it calls make is longer than what came in: it says more and counts as full. Else prove '..UptoSaid'. A law counts once. -/
mutual
def uptoBulk {H : Type} : DataW H → Nat
  | .lit (.string bytes) => bytes.length + 1
  | .lit _ => 1
  | .nil => 1
  | .ptr d => uptoBulk d + 1
  | .slice elems spare => uptoBulkAll elems + uptoBulkAll spare + 1
  | .agg parts => uptoBulkAll parts + 1
  | .iface _ d => uptoBulk d + 1
  | .map entries => uptoBulkEntries entries + 1
  | .held _ => 1
def uptoBulkAll {H : Type} : List (DataW H) → Nat
  | [] => 0
  | d :: r => uptoBulk d + uptoBulkAll r
def uptoBulkEntries {H : Type} : List (Lit × DataW H) → Nat
  | [] => 0
  | x :: r => uptoBulkEntry x + uptoBulkEntries r
def uptoBulkEntry {H : Type} : Lit × DataW H → Nat
  | (.string bytes, d) => bytes.length + uptoBulk d + 1
  | (_, d) => uptoBulk d + 1
 end
def uptoSmall : (H : Type) → List (DataW H) → Bool := fun _ ds => decide (uptoBulkAll ds ≤ 1048576)
def OpenSpec.upto (s : _root_.Go.ChangeSpec) : _root_.Go.OpenSpec := { _root_.Go.OpenSpec.ofChange s with cond := some uptoSmall }

/-- 'laws.FnExactTouchingFaces', WHERE WHAT IT READS IS OF BULK AT MOST 1048576: true; the input reads as it did. -/
def fnExactTouchingFacesUptoRow : OpenClaim := { program := "ytfpofjckpbmcjaa", sum := "a11695cd8e3e418fa022ce51ca7cc088e80a95dc4bf2522c60cdb4bcc1f6c0cf", func := "loop.example/g00919/laws.FnExactTouchingFaces", spec := "fnExactTouchingFaces", plainKeys := false, apart := false, narrowed := true }
def FnExactTouchingFacesUptoSaid : Prop := fnExactTouchingFacesUptoRow.holds Try.pinned (OpenSpec.upto fnExactTouchingFacesSpec)

/-- 'laws.FnExactMergeProgress', WHERE WHAT IT READS IS OF BULK AT MOST 1048576: true; the input reads as it did. -/
def fnExactMergeProgressUptoRow : OpenClaim := { program := "ytfpofjckpbmcjaa", sum := "a11695cd8e3e418fa022ce51ca7cc088e80a95dc4bf2522c60cdb4bcc1f6c0cf", func := "loop.example/g00919/laws.FnExactMergeProgress", spec := "fnExactMergeProgress", plainKeys := false, apart := false, narrowed := true }
def FnExactMergeProgressUptoSaid : Prop := fnExactMergeProgressUptoRow.holds Try.pinned (OpenSpec.upto fnExactMergeProgressSpec)

/-- 'laws.FnExactOutlineText', WHERE WHAT IT READS IS OF BULK AT MOST 1048576: true; the input reads as it did. -/
def fnExactOutlineTextUptoRow : OpenClaim := { program := "ytfpofjckpbmcjaa", sum := "a11695cd8e3e418fa022ce51ca7cc088e80a95dc4bf2522c60cdb4bcc1f6c0cf", func := "loop.example/g00919/laws.FnExactOutlineText", spec := "fnExactOutlineText", inPlace := ["internal/abi.NoEscape", "internal/bytealg.MakeNoZero"], unfollowed := true, recurses := true, plainKeys := false, apart := false, narrowed := true }
def FnExactOutlineTextUptoSaid : Prop := fnExactOutlineTextUptoRow.holds Try.pinned (OpenSpec.upto fnExactOutlineTextSpec)

/-- 'laws.FnExactGroupsText', WHERE WHAT IT READS IS OF BULK AT MOST 1048576: true; the input reads as it did. -/
def fnExactGroupsTextUptoRow : OpenClaim := { program := "ytfpofjckpbmcjaa", sum := "a11695cd8e3e418fa022ce51ca7cc088e80a95dc4bf2522c60cdb4bcc1f6c0cf", func := "loop.example/g00919/laws.FnExactGroupsText", spec := "fnExactGroupsText", inPlace := ["internal/abi.NoEscape", "internal/bytealg.MakeNoZero"], unfollowed := true, recurses := true, plainKeys := false, apart := false, narrowed := true }
def FnExactGroupsTextUptoSaid : Prop := fnExactGroupsTextUptoRow.holds Try.pinned (OpenSpec.upto fnExactGroupsTextSpec)

/-- 'laws.FnExactSideCount', WHERE WHAT IT READS IS OF BULK AT MOST 1048576: true; the input reads as it did. -/
def fnExactSideCountUptoRow : OpenClaim := { program := "ytfpofjckpbmcjaa", sum := "a11695cd8e3e418fa022ce51ca7cc088e80a95dc4bf2522c60cdb4bcc1f6c0cf", func := "loop.example/g00919/laws.FnExactSideCount", spec := "fnExactSideCount", inPlace := ["internal/abi.NoEscape", "internal/bytealg.MakeNoZero"], unfollowed := true, recurses := true, plainKeys := false, apart := false, narrowed := true }
def FnExactSideCountUptoSaid : Prop := fnExactSideCountUptoRow.holds Try.pinned (OpenSpec.upto fnExactSideCountSpec)

end Rows
end Go.Proofs.Ytfpofjckpbmcjaa
