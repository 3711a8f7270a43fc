/-
  DERIVED. GIVEN WITH THE SEED: THE CARDS: each row of YtmdjkmfocgelnaaGreatDoorRows.lean that lists a variable, with what it lists TIED to the program's text (the seventh form; the later family's looks); each row that meets fmt, with fmt's text TOLD by the authors' own Lean function (tested against real Go, not proved from fmt's source: count such statements apart). THE CARD IS WHAT COUNTS. Prove the row's statement (the work); the ties are given (YtmdjkmfocgelnaaGreatDoorTie.lean); close each card by the builder's one call (the guide's Derived/Test/ToyasCard.lean, 'card_holds'). Laid BY PROGRAM, IN A SANDBOX (cutbox-door.mjs). By AI agents, Wed Nov 11 2026. No macro, syntax, notation, axiom, sorry.
-/
import Derived.Test.YtmdjkmfocgelnaaGreatDoorRows
import GoSem.ClaimSeven
namespace Go.Proofs.YtmdjkmfocgelnaaGreatDoor
namespace Rows

/-- THE TIED CARD OF 'laws.FnExactNets'. -/
def fnExactNetsCard : Claim7 := { stood := { row := fnExactNetsRow, standIns := [], harness := (true, "b8daaf1bed23c2c405560a06624efd1565d4fecbe043032c5ffd8dba34fbb040"), looks := false }, kinds := [], alts := [], laidByText := true, laidKinds := [.data], laidTests := true, laidLooks := .later }
def FnExactNetsCardSaid : Prop := Claim7.holds Tryz.pinned (.plain (OpenSpec.ofChange fnExactNetsSpec)) fnExactNetsCard

/-- THE TIED CARD OF 'laws.FnAllNets'. -/
def fnAllNetsCard : Claim7 := { stood := { row := fnAllNetsRow, standIns := [], harness := (true, "b8daaf1bed23c2c405560a06624efd1565d4fecbe043032c5ffd8dba34fbb040"), looks := false }, kinds := [], alts := [], laidByText := true, laidKinds := [.data], laidTests := true, laidLooks := .later }
def FnAllNetsCardSaid : Prop := Claim7.holds Tryz.pinned (.plain (OpenSpec.ofChange fnAllNetsSpec)) fnAllNetsCard

/-- THE SECOND FORM's CARD OF 'laws.FnExactNets'. -/
def fnExactNetsUptoCard : Claim7 := { stood := { row := fnExactNetsUptoRow, standIns := [], harness := (true, "b8daaf1bed23c2c405560a06624efd1565d4fecbe043032c5ffd8dba34fbb040"), looks := false }, kinds := [], alts := [], laidByText := true, laidKinds := [.data], laidTests := true, laidLooks := .later }
def FnExactNetsUptoCardSaid : Prop := Claim7.holds Tryz.pinned (.plain (OpenSpec.upto fnExactNetsSpec)) fnExactNetsUptoCard

/-- THE SECOND FORM's CARD OF 'laws.FnAllNets'. -/
def fnAllNetsUptoCard : Claim7 := { stood := { row := fnAllNetsUptoRow, standIns := [], harness := (true, "b8daaf1bed23c2c405560a06624efd1565d4fecbe043032c5ffd8dba34fbb040"), looks := false }, kinds := [], alts := [], laidByText := true, laidKinds := [.data], laidTests := true, laidLooks := .later }
def FnAllNetsUptoCardSaid : Prop := Claim7.holds Tryz.pinned (.plain (OpenSpec.upto fnAllNetsSpec)) fnAllNetsUptoCard
end Rows
end Go.Proofs.YtmdjkmfocgelnaaGreatDoor
