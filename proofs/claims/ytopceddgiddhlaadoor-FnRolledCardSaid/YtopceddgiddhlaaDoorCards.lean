/-
  DERIVED. GIVEN WITH THE SEED: THE CARDS: each row of YtopceddgiddhlaaDoorRows.lean that lists a variable, with what it lists TIED to the program's text (the seventh form; the later family's looks); each row that meets fmt, with fmt's text TOLD by the authors' own Lean function (tested against real Go, not proved from fmt's source: count such statements apart). THE CARD IS WHAT COUNTS. Prove the row's statement (the work); the ties are given (YtopceddgiddhlaaDoorTie.lean); close each card by the builder's one call (the guide's Derived/Test/ToyasCard.lean, 'card_holds'). Laid BY PROGRAM, IN A SANDBOX (cutbox-door.mjs). By AI agents, Wed Nov 11 2026. No macro, syntax, notation, axiom, sorry.
-/
import Derived.Test.YtopceddgiddhlaaDoorRows
import GoSem.ClaimSeven
namespace Go.Proofs.YtopceddgiddhlaaDoor
namespace Rows

/-- THE TIED CARD OF 'laws.FnMirrored'. -/
def fnMirroredCard : Claim7 := { stood := { row := fnMirroredRow, standIns := [], harness := (true, "91e909221cb9a1197a02b0b6e2db91f53550fa5b1f5a8d496c7cdc7644582883"), looks := false }, kinds := [], alts := [], laidByText := true, laidKinds := [.data, .pinned], laidTests := true, laidLooks := .later }
def FnMirroredCardSaid : Prop := Claim7.holds Tryd.pinned (.plain (OpenSpec.ofChange fnMirroredSpec)) fnMirroredCard

/-- THE TIED CARD OF 'laws.FnNets'. -/
def fnNetsCard : Claim7 := { stood := { row := fnNetsRow, standIns := [], harness := (true, "91e909221cb9a1197a02b0b6e2db91f53550fa5b1f5a8d496c7cdc7644582883"), looks := false }, kinds := [], alts := [], laidByText := true, laidKinds := [.data], laidTests := true, laidLooks := .later }
def FnNetsCardSaid : Prop := Claim7.holds Tryd.pinned (.plain (OpenSpec.ofChange fnNetsSpec)) fnNetsCard

/-- THE TIED CARD OF 'laws.FnRolled'. -/
def fnRolledCard : Claim7 := { stood := { row := fnRolledRow, standIns := [], harness := (true, "91e909221cb9a1197a02b0b6e2db91f53550fa5b1f5a8d496c7cdc7644582883"), looks := false }, kinds := [], alts := [], laidByText := true, laidKinds := [.data, .data, .pinned], laidTests := true, laidLooks := .later }
def FnRolledCardSaid : Prop := Claim7.holds Tryd.pinned (.plain (OpenSpec.ofChange fnRolledSpec)) fnRolledCard

/-- THE SECOND FORM's CARD OF 'laws.FnMirrored'. -/
def fnMirroredUptoCard : Claim7 := { stood := { row := fnMirroredUptoRow, standIns := [], harness := (true, "91e909221cb9a1197a02b0b6e2db91f53550fa5b1f5a8d496c7cdc7644582883"), looks := false }, kinds := [], alts := [], laidByText := true, laidKinds := [.data, .pinned], laidTests := true, laidLooks := .later }
def FnMirroredUptoCardSaid : Prop := Claim7.holds Tryd.pinned (.plain (OpenSpec.upto fnMirroredSpec)) fnMirroredUptoCard

/-- THE SECOND FORM's CARD OF 'laws.FnNets'. -/
def fnNetsUptoCard : Claim7 := { stood := { row := fnNetsUptoRow, standIns := [], harness := (true, "91e909221cb9a1197a02b0b6e2db91f53550fa5b1f5a8d496c7cdc7644582883"), looks := false }, kinds := [], alts := [], laidByText := true, laidKinds := [.data], laidTests := true, laidLooks := .later }
def FnNetsUptoCardSaid : Prop := Claim7.holds Tryd.pinned (.plain (OpenSpec.upto fnNetsSpec)) fnNetsUptoCard

/-- THE SECOND FORM's CARD OF 'laws.FnRolled'. -/
def fnRolledUptoCard : Claim7 := { stood := { row := fnRolledUptoRow, standIns := [], harness := (true, "91e909221cb9a1197a02b0b6e2db91f53550fa5b1f5a8d496c7cdc7644582883"), looks := false }, kinds := [], alts := [], laidByText := true, laidKinds := [.data, .data, .pinned], laidTests := true, laidLooks := .later }
def FnRolledUptoCardSaid : Prop := Claim7.holds Tryd.pinned (.plain (OpenSpec.upto fnRolledSpec)) fnRolledUptoCard
end Rows
end Go.Proofs.YtopceddgiddhlaaDoor
