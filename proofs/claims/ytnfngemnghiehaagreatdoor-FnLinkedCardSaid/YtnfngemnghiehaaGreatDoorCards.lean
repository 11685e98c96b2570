/-
  DERIVED. GIVEN WITH THE SEED: THE CARDS: each row of YtnfngemnghiehaaGreatDoorRows.lean that lists a variable, with what it lists TIED to the program's text (the seventh form; the later family's looks); each row that meets fmt, with fmt's text TOLD by the authors' own Lean function (tested against real Go, not proved from fmt's source: count such statements apart). THE CARD IS WHAT COUNTS. Prove the row's statement (the work); the ties are given (YtnfngemnghiehaaGreatDoorTie.lean); close each card by the builder's one call (the guide's Derived/Test/ToyasCard.lean, 'card_holds'). Laid BY PROGRAM, IN A SANDBOX (cutbox-door.mjs). By AI agents, Wed Nov 11 2026. No macro, syntax, notation, axiom, sorry.
-/
import Derived.Test.YtnfngemnghiehaaGreatDoorRows
import GoSem.ClaimSeven
namespace Go.Proofs.YtnfngemnghiehaaGreatDoor
namespace Rows

/-- THE TIED CARD OF 'laws.FnRootStays'. -/
def fnRootStaysCard : Claim7 := { stood := { row := fnRootStaysRow, standIns := [], harness := (true, "a471463198dfccefd4549d2ca3dea33ce4024f0ca831b63ca506e736f471de25"), looks := false }, kinds := [], alts := [], laidByText := true, laidKinds := [.data, .pinned], laidTests := true, laidLooks := .later }
def FnRootStaysCardSaid : Prop := Claim7.holds Tryz.pinned (.plain (OpenSpec.ofChange fnRootStaysSpec)) fnRootStaysCard

/-- THE TIED CARD OF 'laws.FnUnlinked'. -/
def fnUnlinkedCard : Claim7 := { stood := { row := fnUnlinkedRow, standIns := [], harness := (true, "a471463198dfccefd4549d2ca3dea33ce4024f0ca831b63ca506e736f471de25"), looks := false }, kinds := [], alts := [], laidByText := true, laidKinds := [.data, .pinned], laidTests := true, laidLooks := .later }
def FnUnlinkedCardSaid : Prop := Claim7.holds Tryz.pinned (.plain (OpenSpec.ofChange fnUnlinkedSpec)) fnUnlinkedCard

/-- THE TIED CARD OF 'laws.FnRemoved'. -/
def fnRemovedCard : Claim7 := { stood := { row := fnRemovedRow, standIns := [], harness := (true, "a471463198dfccefd4549d2ca3dea33ce4024f0ca831b63ca506e736f471de25"), looks := false }, kinds := [], alts := [], laidByText := true, laidKinds := [.data, .pinned], laidTests := true, laidLooks := .later }
def FnRemovedCardSaid : Prop := Claim7.holds Tryz.pinned (.plain (OpenSpec.ofChange fnRemovedSpec)) fnRemovedCard

/-- THE TIED CARD OF 'laws.FnMade'. -/
def fnMadeCard : Claim7 := { stood := { row := fnMadeRow, standIns := [], harness := (true, "a471463198dfccefd4549d2ca3dea33ce4024f0ca831b63ca506e736f471de25"), looks := false }, kinds := [], alts := [], laidByText := true, laidKinds := [.data, .pinned], laidTests := true, laidLooks := .later }
def FnMadeCardSaid : Prop := Claim7.holds Tryz.pinned (.plain (OpenSpec.ofChange fnMadeSpec)) fnMadeCard

/-- THE TIED CARD OF 'laws.FnDirs'. -/
def fnDirsCard : Claim7 := { stood := { row := fnDirsRow, standIns := [], harness := (true, "a471463198dfccefd4549d2ca3dea33ce4024f0ca831b63ca506e736f471de25"), looks := false }, kinds := [], alts := [], laidByText := true, laidKinds := [.data, .pinned], laidTests := true, laidLooks := .later }
def FnDirsCardSaid : Prop := Claim7.holds Tryz.pinned (.plain (OpenSpec.ofChange fnDirsSpec)) fnDirsCard

/-- THE TIED CARD OF 'laws.FnLinked'. -/
def fnLinkedCard : Claim7 := { stood := { row := fnLinkedRow, standIns := [], harness := (true, "a471463198dfccefd4549d2ca3dea33ce4024f0ca831b63ca506e736f471de25"), looks := false }, kinds := [], alts := [], laidByText := true, laidKinds := [.data, .pinned], laidTests := true, laidLooks := .later }
def FnLinkedCardSaid : Prop := Claim7.holds Tryz.pinned (.plain (OpenSpec.ofChange fnLinkedSpec)) fnLinkedCard

/-- THE TIED CARD OF 'laws.FnMoved'. -/
def fnMovedCard : Claim7 := { stood := { row := fnMovedRow, standIns := [], harness := (true, "a471463198dfccefd4549d2ca3dea33ce4024f0ca831b63ca506e736f471de25"), looks := false }, kinds := [], alts := [], laidByText := true, laidKinds := [.data, .pinned], laidTests := true, laidLooks := .later }
def FnMovedCardSaid : Prop := Claim7.holds Tryz.pinned (.plain (OpenSpec.ofChange fnMovedSpec)) fnMovedCard

/-- THE TIED CARD OF 'laws.FnTreesBent'. -/
def fnTreesBentCard : Claim7 := { stood := { row := fnTreesBentRow, standIns := [], harness := (true, "a471463198dfccefd4549d2ca3dea33ce4024f0ca831b63ca506e736f471de25"), looks := false }, kinds := [], alts := [], laidByText := true, laidKinds := [.data, .pinned], laidTests := true, laidLooks := .later }
def FnTreesBentCardSaid : Prop := Claim7.holds Tryz.pinned (.plain (OpenSpec.ofChange fnTreesBentSpec)) fnTreesBentCard

/-- THE TIED CARD OF 'laws.FnExactRename'. -/
def fnExactRenameCard : Claim7 := { stood := { row := fnExactRenameRow, standIns := [], harness := (true, "a471463198dfccefd4549d2ca3dea33ce4024f0ca831b63ca506e736f471de25"), looks := false }, kinds := [], alts := [], laidByText := true, laidKinds := [.data, .pinned], laidTests := true, laidLooks := .later }
def FnExactRenameCardSaid : Prop := Claim7.holds Tryz.pinned (.plain (OpenSpec.ofChange fnExactRenameSpec)) fnExactRenameCard

/-- THE SECOND FORM's CARD OF 'laws.FnRootStays'. -/
def fnRootStaysUptoCard : Claim7 := { stood := { row := fnRootStaysUptoRow, standIns := [], harness := (true, "a471463198dfccefd4549d2ca3dea33ce4024f0ca831b63ca506e736f471de25"), looks := false }, kinds := [], alts := [], laidByText := true, laidKinds := [.data, .pinned], laidTests := true, laidLooks := .later }
def FnRootStaysUptoCardSaid : Prop := Claim7.holds Tryz.pinned (.plain (OpenSpec.upto fnRootStaysSpec)) fnRootStaysUptoCard

/-- THE SECOND FORM's CARD OF 'laws.FnUnlinked'. -/
def fnUnlinkedUptoCard : Claim7 := { stood := { row := fnUnlinkedUptoRow, standIns := [], harness := (true, "a471463198dfccefd4549d2ca3dea33ce4024f0ca831b63ca506e736f471de25"), looks := false }, kinds := [], alts := [], laidByText := true, laidKinds := [.data, .pinned], laidTests := true, laidLooks := .later }
def FnUnlinkedUptoCardSaid : Prop := Claim7.holds Tryz.pinned (.plain (OpenSpec.upto fnUnlinkedSpec)) fnUnlinkedUptoCard

/-- THE SECOND FORM's CARD OF 'laws.FnRemoved'. -/
def fnRemovedUptoCard : Claim7 := { stood := { row := fnRemovedUptoRow, standIns := [], harness := (true, "a471463198dfccefd4549d2ca3dea33ce4024f0ca831b63ca506e736f471de25"), looks := false }, kinds := [], alts := [], laidByText := true, laidKinds := [.data, .pinned], laidTests := true, laidLooks := .later }
def FnRemovedUptoCardSaid : Prop := Claim7.holds Tryz.pinned (.plain (OpenSpec.upto fnRemovedSpec)) fnRemovedUptoCard

/-- THE SECOND FORM's CARD OF 'laws.FnMade'. -/
def fnMadeUptoCard : Claim7 := { stood := { row := fnMadeUptoRow, standIns := [], harness := (true, "a471463198dfccefd4549d2ca3dea33ce4024f0ca831b63ca506e736f471de25"), looks := false }, kinds := [], alts := [], laidByText := true, laidKinds := [.data, .pinned], laidTests := true, laidLooks := .later }
def FnMadeUptoCardSaid : Prop := Claim7.holds Tryz.pinned (.plain (OpenSpec.upto fnMadeSpec)) fnMadeUptoCard

/-- THE SECOND FORM's CARD OF 'laws.FnDirs'. -/
def fnDirsUptoCard : Claim7 := { stood := { row := fnDirsUptoRow, standIns := [], harness := (true, "a471463198dfccefd4549d2ca3dea33ce4024f0ca831b63ca506e736f471de25"), looks := false }, kinds := [], alts := [], laidByText := true, laidKinds := [.data, .pinned], laidTests := true, laidLooks := .later }
def FnDirsUptoCardSaid : Prop := Claim7.holds Tryz.pinned (.plain (OpenSpec.upto fnDirsSpec)) fnDirsUptoCard

/-- THE SECOND FORM's CARD OF 'laws.FnLinked'. -/
def fnLinkedUptoCard : Claim7 := { stood := { row := fnLinkedUptoRow, standIns := [], harness := (true, "a471463198dfccefd4549d2ca3dea33ce4024f0ca831b63ca506e736f471de25"), looks := false }, kinds := [], alts := [], laidByText := true, laidKinds := [.data, .pinned], laidTests := true, laidLooks := .later }
def FnLinkedUptoCardSaid : Prop := Claim7.holds Tryz.pinned (.plain (OpenSpec.upto fnLinkedSpec)) fnLinkedUptoCard

/-- THE SECOND FORM's CARD OF 'laws.FnMoved'. -/
def fnMovedUptoCard : Claim7 := { stood := { row := fnMovedUptoRow, standIns := [], harness := (true, "a471463198dfccefd4549d2ca3dea33ce4024f0ca831b63ca506e736f471de25"), looks := false }, kinds := [], alts := [], laidByText := true, laidKinds := [.data, .pinned], laidTests := true, laidLooks := .later }
def FnMovedUptoCardSaid : Prop := Claim7.holds Tryz.pinned (.plain (OpenSpec.upto fnMovedSpec)) fnMovedUptoCard

/-- THE SECOND FORM's CARD OF 'laws.FnTreesBent'. -/
def fnTreesBentUptoCard : Claim7 := { stood := { row := fnTreesBentUptoRow, standIns := [], harness := (true, "a471463198dfccefd4549d2ca3dea33ce4024f0ca831b63ca506e736f471de25"), looks := false }, kinds := [], alts := [], laidByText := true, laidKinds := [.data, .pinned], laidTests := true, laidLooks := .later }
def FnTreesBentUptoCardSaid : Prop := Claim7.holds Tryz.pinned (.plain (OpenSpec.upto fnTreesBentSpec)) fnTreesBentUptoCard

/-- THE SECOND FORM's CARD OF 'laws.FnExactRename'. -/
def fnExactRenameUptoCard : Claim7 := { stood := { row := fnExactRenameUptoRow, standIns := [], harness := (true, "a471463198dfccefd4549d2ca3dea33ce4024f0ca831b63ca506e736f471de25"), looks := false }, kinds := [], alts := [], laidByText := true, laidKinds := [.data, .pinned], laidTests := true, laidLooks := .later }
def FnExactRenameUptoCardSaid : Prop := Claim7.holds Tryz.pinned (.plain (OpenSpec.upto fnExactRenameSpec)) fnExactRenameUptoCard
end Rows
end Go.Proofs.YtnfngemnghiehaaGreatDoor
