/-
  DERIVED. GIVEN WITH THE SEED: THE CARDS: each row of YtfpofjckpbmcjaaDoorRows.lean that lists a variable, with what it lists TIED to the program's text (the seventh form; the later family's looks); each row that meets fmt, with fmt's text TOLD by the authors' own Lean function (tested against real Go, not proved from fmt's source: count such statements apart). THE CARD IS WHAT COUNTS. Prove the row's statement (the work); the ties are given (YtfpofjckpbmcjaaDoorTie.lean); close each card by the builder's one call (the guide's Derived/Test/ToyasCard.lean, 'card_holds'). Laid BY PROGRAM, IN A SANDBOX (cutbox-door.mjs). By AI agents, Wed Nov 11 2026. No macro, syntax, notation, axiom, sorry.
-/
import Derived.Test.YtfpofjckpbmcjaaDoorRows
import GoSem.ClaimSeven
namespace Go.Proofs.YtfpofjckpbmcjaaDoor
namespace Rows

/-- THE TIED CARD OF 'laws.FnExactProgressText'. -/
def fnExactProgressTextCard : Claim7 := { stood := { row := fnExactProgressTextRow, standIns := [], harness := (true, "af7d1aede6263a0a86a64224ae33dab1e9373482890adf1a4005e1cf5d670529"), looks := false }, kinds := [], alts := [], laidByText := true, laidKinds := [.data, .data, .data], laidTests := true, laidLooks := .later }
def FnExactProgressTextCardSaid : Prop := Claim7.holds Tryd.pinned (.plain (OpenSpec.ofChange fnExactProgressTextSpec)) fnExactProgressTextCard

/-- THE TIED CARD OF 'laws.FnExactRollWord'. -/
def fnExactRollWordCard : Claim7 := { stood := { row := fnExactRollWordRow, standIns := [], harness := (true, "af7d1aede6263a0a86a64224ae33dab1e9373482890adf1a4005e1cf5d670529"), looks := false }, kinds := [], alts := [], laidByText := true, laidKinds := [.data, .data, .pinned], laidTests := true, laidLooks := .later }
def FnExactRollWordCardSaid : Prop := Claim7.holds Tryd.pinned (.plain (OpenSpec.ofChange fnExactRollWordSpec)) fnExactRollWordCard

/-- THE TIED CARD OF 'laws.FnExactRollOrder'. -/
def fnExactRollOrderCard : Claim7 := { stood := { row := fnExactRollOrderRow, standIns := [], harness := (true, "af7d1aede6263a0a86a64224ae33dab1e9373482890adf1a4005e1cf5d670529"), looks := false }, kinds := [], alts := [], laidByText := true, laidKinds := [.data, .data, .pinned], laidTests := true, laidLooks := .later }
def FnExactRollOrderCardSaid : Prop := Claim7.holds Tryd.pinned (.plain (OpenSpec.ofChange fnExactRollOrderSpec)) fnExactRollOrderCard

/-- THE TIED CARD OF 'laws.FnExactIsNet'. -/
def fnExactIsNetCard : Claim7 := { stood := { row := fnExactIsNetRow, standIns := [], harness := (true, "af7d1aede6263a0a86a64224ae33dab1e9373482890adf1a4005e1cf5d670529"), looks := false }, kinds := [], alts := [], laidByText := true, laidKinds := [.data], laidTests := true, laidLooks := .later }
def FnExactIsNetCardSaid : Prop := Claim7.holds Tryd.pinned (.plain (OpenSpec.ofChange fnExactIsNetSpec)) fnExactIsNetCard

/-- THE TIED CARD OF 'laws.FnExactMirrorText'. -/
def fnExactMirrorTextCard : Claim7 := { stood := { row := fnExactMirrorTextRow, standIns := [], harness := (true, "af7d1aede6263a0a86a64224ae33dab1e9373482890adf1a4005e1cf5d670529"), looks := false }, kinds := [], alts := [], laidByText := true, laidKinds := [.data, .pinned], laidTests := true, laidLooks := .later }
def FnExactMirrorTextCardSaid : Prop := Claim7.holds Tryd.pinned (.plain (OpenSpec.ofChange fnExactMirrorTextSpec)) fnExactMirrorTextCard

/-- THE TIED CARD OF 'laws.FnExactFacesOf'. -/
def fnExactFacesOfCard : Claim7 := { stood := { row := fnExactFacesOfRow, standIns := [], harness := (true, "af7d1aede6263a0a86a64224ae33dab1e9373482890adf1a4005e1cf5d670529"), looks := false }, kinds := [], alts := [], laidByText := true, laidKinds := [.data], laidTests := true, laidLooks := .later }
def FnExactFacesOfCardSaid : Prop := Claim7.holds Tryd.pinned (.plain (OpenSpec.ofChange fnExactFacesOfSpec)) fnExactFacesOfCard

/-- THE TIED CARD OF 'laws.FnExactOppositeCells'. -/
def fnExactOppositeCellsCard : Claim7 := { stood := { row := fnExactOppositeCellsRow, standIns := [], harness := (true, "af7d1aede6263a0a86a64224ae33dab1e9373482890adf1a4005e1cf5d670529"), looks := false }, kinds := [], alts := [], laidByText := true, laidKinds := [.data], laidTests := true, laidLooks := .later }
def FnExactOppositeCellsCardSaid : Prop := Claim7.holds Tryd.pinned (.plain (OpenSpec.ofChange fnExactOppositeCellsSpec)) fnExactOppositeCellsCard

/-- THE SECOND FORM's CARD OF 'laws.FnExactProgressText'. -/
def fnExactProgressTextUptoCard : Claim7 := { stood := { row := fnExactProgressTextUptoRow, standIns := [], harness := (true, "af7d1aede6263a0a86a64224ae33dab1e9373482890adf1a4005e1cf5d670529"), looks := false }, kinds := [], alts := [], laidByText := true, laidKinds := [.data, .data, .data], laidTests := true, laidLooks := .later }
def FnExactProgressTextUptoCardSaid : Prop := Claim7.holds Tryd.pinned (.plain (OpenSpec.upto fnExactProgressTextSpec)) fnExactProgressTextUptoCard

/-- THE SECOND FORM's CARD OF 'laws.FnExactRollWord'. -/
def fnExactRollWordUptoCard : Claim7 := { stood := { row := fnExactRollWordUptoRow, standIns := [], harness := (true, "af7d1aede6263a0a86a64224ae33dab1e9373482890adf1a4005e1cf5d670529"), looks := false }, kinds := [], alts := [], laidByText := true, laidKinds := [.data, .data, .pinned], laidTests := true, laidLooks := .later }
def FnExactRollWordUptoCardSaid : Prop := Claim7.holds Tryd.pinned (.plain (OpenSpec.upto fnExactRollWordSpec)) fnExactRollWordUptoCard

/-- THE SECOND FORM's CARD OF 'laws.FnExactRollOrder'. -/
def fnExactRollOrderUptoCard : Claim7 := { stood := { row := fnExactRollOrderUptoRow, standIns := [], harness := (true, "af7d1aede6263a0a86a64224ae33dab1e9373482890adf1a4005e1cf5d670529"), looks := false }, kinds := [], alts := [], laidByText := true, laidKinds := [.data, .data, .pinned], laidTests := true, laidLooks := .later }
def FnExactRollOrderUptoCardSaid : Prop := Claim7.holds Tryd.pinned (.plain (OpenSpec.upto fnExactRollOrderSpec)) fnExactRollOrderUptoCard

/-- THE SECOND FORM's CARD OF 'laws.FnExactIsNet'. -/
def fnExactIsNetUptoCard : Claim7 := { stood := { row := fnExactIsNetUptoRow, standIns := [], harness := (true, "af7d1aede6263a0a86a64224ae33dab1e9373482890adf1a4005e1cf5d670529"), looks := false }, kinds := [], alts := [], laidByText := true, laidKinds := [.data], laidTests := true, laidLooks := .later }
def FnExactIsNetUptoCardSaid : Prop := Claim7.holds Tryd.pinned (.plain (OpenSpec.upto fnExactIsNetSpec)) fnExactIsNetUptoCard

/-- THE SECOND FORM's CARD OF 'laws.FnExactMirrorText'. -/
def fnExactMirrorTextUptoCard : Claim7 := { stood := { row := fnExactMirrorTextUptoRow, standIns := [], harness := (true, "af7d1aede6263a0a86a64224ae33dab1e9373482890adf1a4005e1cf5d670529"), looks := false }, kinds := [], alts := [], laidByText := true, laidKinds := [.data, .pinned], laidTests := true, laidLooks := .later }
def FnExactMirrorTextUptoCardSaid : Prop := Claim7.holds Tryd.pinned (.plain (OpenSpec.upto fnExactMirrorTextSpec)) fnExactMirrorTextUptoCard

/-- THE SECOND FORM's CARD OF 'laws.FnExactFacesOf'. -/
def fnExactFacesOfUptoCard : Claim7 := { stood := { row := fnExactFacesOfUptoRow, standIns := [], harness := (true, "af7d1aede6263a0a86a64224ae33dab1e9373482890adf1a4005e1cf5d670529"), looks := false }, kinds := [], alts := [], laidByText := true, laidKinds := [.data], laidTests := true, laidLooks := .later }
def FnExactFacesOfUptoCardSaid : Prop := Claim7.holds Tryd.pinned (.plain (OpenSpec.upto fnExactFacesOfSpec)) fnExactFacesOfUptoCard

/-- THE SECOND FORM's CARD OF 'laws.FnExactOppositeCells'. -/
def fnExactOppositeCellsUptoCard : Claim7 := { stood := { row := fnExactOppositeCellsUptoRow, standIns := [], harness := (true, "af7d1aede6263a0a86a64224ae33dab1e9373482890adf1a4005e1cf5d670529"), looks := false }, kinds := [], alts := [], laidByText := true, laidKinds := [.data], laidTests := true, laidLooks := .later }
def FnExactOppositeCellsUptoCardSaid : Prop := Claim7.holds Tryd.pinned (.plain (OpenSpec.upto fnExactOppositeCellsSpec)) fnExactOppositeCellsUptoCard
end Rows
end Go.Proofs.YtfpofjckpbmcjaaDoor
