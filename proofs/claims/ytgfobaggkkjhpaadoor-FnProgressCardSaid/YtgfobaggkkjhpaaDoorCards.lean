/-
  DERIVED. GIVEN WITH THE SEED: THE CARDS: each row of YtgfobaggkkjhpaaDoorRows.lean that lists a variable, with what it lists TIED to the program's text (the seventh form; the later family's looks); each row that meets fmt, with fmt's text TOLD by the authors' own Lean function (tested against real Go, not proved from fmt's source: count such statements apart). THE CARD IS WHAT COUNTS. Prove the row's statement (the work); the ties are given (YtgfobaggkkjhpaaDoorTie.lean); close each card by the builder's one call (the guide's Derived/Test/ToyasCard.lean, 'card_holds'). Laid BY PROGRAM, IN A SANDBOX (cutbox-door.mjs). By AI agents, Wed Nov 11 2026. No macro, syntax, notation, axiom, sorry.
-/
import Derived.Test.YtgfobaggkkjhpaaDoorRows
import GoSem.ClaimSeven
namespace Go.Proofs.YtgfobaggkkjhpaaDoor
namespace Rows

/-- THE TIED CARD OF 'laws.FnExactReadProgress'. -/
def fnExactReadProgressCard : Claim7 := { stood := { row := fnExactReadProgressRow, standIns := [], harness := (true, "45f3c89f3ab01f54b9d146326dfd941274170c236062330dd238f0b3f64d1a13"), looks := true }, kinds := [], alts := [], laidByText := true, laidKinds := [.data, .data, .data, .data, .sentinel, .sentinel, .pinned], laidTests := true, laidLooks := .later }
def FnExactReadProgressCardSaid : Prop := Claim7.holds Tryd.pinned (.plain (OpenSpec.ofChange fnExactReadProgressSpec)) fnExactReadProgressCard

/-- THE TIED CARD OF 'laws.FnProgress'. -/
def fnProgressCard : Claim7 := { stood := { row := fnProgressRow, standIns := [], harness := (true, "45f3c89f3ab01f54b9d146326dfd941274170c236062330dd238f0b3f64d1a13"), looks := true }, kinds := [], alts := [], laidByText := true, laidKinds := [.data, .data, .data, .data, .sentinel, .sentinel, .pinned], laidTests := true, laidLooks := .later }
def FnProgressCardSaid : Prop := Claim7.holds Tryd.pinned (.plain (OpenSpec.ofChange fnProgressSpec)) fnProgressCard

/-- THE SECOND FORM's CARD OF 'laws.FnExactReadProgress'. -/
def fnExactReadProgressUptoCard : Claim7 := { stood := { row := fnExactReadProgressUptoRow, standIns := [], harness := (true, "45f3c89f3ab01f54b9d146326dfd941274170c236062330dd238f0b3f64d1a13"), looks := true }, kinds := [], alts := [], laidByText := true, laidKinds := [.data, .data, .data, .data, .sentinel, .sentinel, .pinned], laidTests := true, laidLooks := .later }
def FnExactReadProgressUptoCardSaid : Prop := Claim7.holds Tryd.pinned (.plain (OpenSpec.upto fnExactReadProgressSpec)) fnExactReadProgressUptoCard

/-- THE SECOND FORM's CARD OF 'laws.FnProgress'. -/
def fnProgressUptoCard : Claim7 := { stood := { row := fnProgressUptoRow, standIns := [], harness := (true, "45f3c89f3ab01f54b9d146326dfd941274170c236062330dd238f0b3f64d1a13"), looks := true }, kinds := [], alts := [], laidByText := true, laidKinds := [.data, .data, .data, .data, .sentinel, .sentinel, .pinned], laidTests := true, laidLooks := .later }
def FnProgressUptoCardSaid : Prop := Claim7.holds Tryd.pinned (.plain (OpenSpec.upto fnProgressSpec)) fnProgressUptoCard
end Rows
end Go.Proofs.YtgfobaggkkjhpaaDoor
