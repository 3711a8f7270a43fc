/-
  No cell of these rows narrows 'for every input' (looked for: loops, veiled, ifaces, maps, wideKeys, modest, calm, conditions, laid).
  DERIVED. THE GIVEN ROWS OF THIS SEAT. 3 by the template 'for every input the law returns true; each argument reads behind the call as it read before'; 0 by the template 'total and deterministic' (their statements: YtmdjkmfocgelnaaGreatTotals.lean).
  GIVEN WITH THE SEED: the statements are not yours to turn. If you find one false, say at which input.
  Laid BY PROGRAM, IN A SANDBOX (cutbox-rows.mjs): the forced cells as the released guide's own fill.sh prints them over the translation d9f6606cb578d0b7… (all of the seat's roots in one cut). By AI agents, Wed Nov 11 2026. No macro, syntax, notation, axiom, sorry.
-/
import Derived.Test.YtmdjkmfocgelnaaGreatChecked
import GoSem.Claim
import GoSem.ClaimJoined
import GoSem.ClaimMapViews
import Derived.JoinedTies
import Derived.KernelRfl
namespace Go.Proofs.YtmdjkmfocgelnaaGreat
/- THE CELL 'sum', in the pinned program and in every row, IS THE sha256 OF THE DUMP (.gsa) THAT YtmdjkmfocgelnaaGreatProg.lean LOADS. Nothing in Lean hashes anything: it is a label: what it is worth is what the hold of that sum in a sandbox is worth. -/
noncomputable def Tryz.pinned : Pinned := { name := "ytmdjkmfocgelnaagreat", sum := "d9f6606cb578d0b764c55fc58cb6cff2447cbf7c6590af4d1b11ae5fd0422e53", checked := Tryz.checked }
namespace Rows
def none {H : Type} : Left H := { results := [], args := [] }

/-- 'laws.FnTriangleShapes': WHATEVER THE INPUT: true; the input reads as it did. -/
def fnTriangleShapesSpec : ChangeSpec := { name := "fnTriangleShapes", fn := fun _ => fun
  | [d] => { results := [.lit (.bool true)], args := [d] }
  | _ => none }
def fnTriangleShapesRow : OpenClaim := { program := "ytmdjkmfocgelnaagreat", sum := "d9f6606cb578d0b764c55fc58cb6cff2447cbf7c6590af4d1b11ae5fd0422e53", func := "loop.example/g00919/laws.FnTriangleShapes", spec := "fnTriangleShapes", unfollowed := true, recurses := true, plainKeys := false, apart := false }
def FnTriangleShapesSaid : Prop := fnTriangleShapesRow.holds Tryz.pinned (OpenSpec.ofChange fnTriangleShapesSpec)

/-- ITS FALSE NEIGHBOUR: 'it returns false'. Refute it at one input. -/
def fnTriangleShapesWrong : ChangeSpec := { name := "fnTriangleShapes", fn := fun _ => fun
  | [d] => { results := [.lit (.bool false)], args := [d] }
  | _ => none }
def FnTriangleShapesWrongFalsely : Prop := fnTriangleShapesRow.holds Tryz.pinned (OpenSpec.ofChange fnTriangleShapesWrong)

/-- 'laws.FnListed': WHATEVER THE INPUT: true; the input reads as it did. -/
def fnListedSpec : ChangeSpec := { name := "fnListed", fn := fun _ => fun
  | [d] => { results := [.lit (.bool true)], args := [d] }
  | _ => none }
def fnListedRow : OpenClaim := { program := "ytmdjkmfocgelnaagreat", sum := "d9f6606cb578d0b764c55fc58cb6cff2447cbf7c6590af4d1b11ae5fd0422e53", func := "loop.example/g00919/laws.FnListed", spec := "fnListed", unfollowed := true, recurses := true, plainKeys := false, apart := false }
def FnListedSaid : Prop := fnListedRow.holds Tryz.pinned (OpenSpec.ofChange fnListedSpec)

/-- ITS FALSE NEIGHBOUR: 'it returns false'. Refute it at one input. -/
def fnListedWrong : ChangeSpec := { name := "fnListed", fn := fun _ => fun
  | [d] => { results := [.lit (.bool false)], args := [d] }
  | _ => none }
def FnListedWrongFalsely : Prop := fnListedRow.holds Tryz.pinned (OpenSpec.ofChange fnListedWrong)

/-- 'laws.FnHexShapes': WHATEVER THE INPUT: true; the input reads as it did. -/
def fnHexShapesSpec : ChangeSpec := { name := "fnHexShapes", fn := fun _ => fun
  | [d] => { results := [.lit (.bool true)], args := [d] }
  | _ => none }
def fnHexShapesRow : OpenClaim := { program := "ytmdjkmfocgelnaagreat", sum := "d9f6606cb578d0b764c55fc58cb6cff2447cbf7c6590af4d1b11ae5fd0422e53", func := "loop.example/g00919/laws.FnHexShapes", spec := "fnHexShapes", unfollowed := true, recurses := true, plainKeys := false, apart := false }
def FnHexShapesSaid : Prop := fnHexShapesRow.holds Tryz.pinned (OpenSpec.ofChange fnHexShapesSpec)

/-- ITS FALSE NEIGHBOUR: 'it returns false'. Refute it at one input. -/
def fnHexShapesWrong : ChangeSpec := { name := "fnHexShapes", fn := fun _ => fun
  | [d] => { results := [.lit (.bool false)], args := [d] }
  | _ => none }
def FnHexShapesWrongFalsely : Prop := fnHexShapesRow.holds Tryz.pinned (OpenSpec.ofChange fnHexShapesWrong)

/- THE SECOND FORM. 'bulk': how many values and letters a reading holds, each counted each time it is reached (what is shared counts as often as it is met; a slice's spare places count too). A statement '..UptoSaid' is the law's where the arguments, and the package variables that the reading takes, are together of bulk at most 1048576: NARROWER than '..Said'. Prove '..Said' where nothing that the law and all that it calls make is longer than what came in: it says more and counts as full. Else prove '..UptoSaid'. A law counts once. -/
mutual
def uptoBulk {H : Type} : DataW H → Nat
  | .lit (.string bytes) => bytes.length + 1
  | .lit _ => 1
  | .nil => 1
  | .ptr d => uptoBulk d + 1
  | .slice elems spare => uptoBulkAll elems + uptoBulkAll spare + 1
  | .agg parts => uptoBulkAll parts + 1
  | .iface _ d => uptoBulk d + 1
  | .map entries => uptoBulkEntries entries + 1
  | .held _ => 1
def uptoBulkAll {H : Type} : List (DataW H) → Nat
  | [] => 0
  | d :: r => uptoBulk d + uptoBulkAll r
def uptoBulkEntries {H : Type} : List (Lit × DataW H) → Nat
  | [] => 0
  | x :: r => uptoBulkEntry x + uptoBulkEntries r
def uptoBulkEntry {H : Type} : Lit × DataW H → Nat
  | (.string bytes, d) => bytes.length + uptoBulk d + 1
  | (_, d) => uptoBulk d + 1
 end
def uptoSmall : (H : Type) → List (DataW H) → Bool := fun _ ds => decide (uptoBulkAll ds ≤ 1048576)
def OpenSpec.upto (s : _root_.Go.ChangeSpec) : _root_.Go.OpenSpec := { _root_.Go.OpenSpec.ofChange s with cond := some uptoSmall }

/-- 'laws.FnTriangleShapes', WHERE WHAT IT READS IS OF BULK AT MOST 1048576: true; the input reads as it did. -/
def fnTriangleShapesUptoRow : OpenClaim := { program := "ytmdjkmfocgelnaagreat", sum := "d9f6606cb578d0b764c55fc58cb6cff2447cbf7c6590af4d1b11ae5fd0422e53", func := "loop.example/g00919/laws.FnTriangleShapes", spec := "fnTriangleShapes", unfollowed := true, recurses := true, plainKeys := false, apart := false, narrowed := true }
def FnTriangleShapesUptoSaid : Prop := fnTriangleShapesUptoRow.holds Tryz.pinned (OpenSpec.upto fnTriangleShapesSpec)

/-- 'laws.FnListed', WHERE WHAT IT READS IS OF BULK AT MOST 1048576: true; the input reads as it did. -/
def fnListedUptoRow : OpenClaim := { program := "ytmdjkmfocgelnaagreat", sum := "d9f6606cb578d0b764c55fc58cb6cff2447cbf7c6590af4d1b11ae5fd0422e53", func := "loop.example/g00919/laws.FnListed", spec := "fnListed", unfollowed := true, recurses := true, plainKeys := false, apart := false, narrowed := true }
def FnListedUptoSaid : Prop := fnListedUptoRow.holds Tryz.pinned (OpenSpec.upto fnListedSpec)

/-- 'laws.FnHexShapes', WHERE WHAT IT READS IS OF BULK AT MOST 1048576: true; the input reads as it did. -/
def fnHexShapesUptoRow : OpenClaim := { program := "ytmdjkmfocgelnaagreat", sum := "d9f6606cb578d0b764c55fc58cb6cff2447cbf7c6590af4d1b11ae5fd0422e53", func := "loop.example/g00919/laws.FnHexShapes", spec := "fnHexShapes", unfollowed := true, recurses := true, plainKeys := false, apart := false, narrowed := true }
def FnHexShapesUptoSaid : Prop := fnHexShapesUptoRow.holds Tryz.pinned (OpenSpec.upto fnHexShapesSpec)

end Rows
end Go.Proofs.YtmdjkmfocgelnaaGreat
