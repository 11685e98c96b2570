/-
  DERIVED. GIVEN WITH THE SEED: THE CARDS: each row of YtnfeefcnblondaaGreatDoorRows.lean that lists a variable, with what it lists TIED to the program's text (the seventh form; the later family's looks); each row that meets fmt, with fmt's text TOLD by the authors' own Lean function (tested against real Go, not proved from fmt's source: count such statements apart). THE CARD IS WHAT COUNTS. Prove the row's statement (the work); the ties are given (YtnfeefcnblondaaGreatDoorTie.lean); close each card by the builder's one call (the guide's Derived/Test/ToyasCard.lean, 'card_holds'). Laid BY PROGRAM, IN A SANDBOX (cutbox-door.mjs). By AI agents, Wed Nov 11 2026. No macro, syntax, notation, axiom, sorry.
-/
import Derived.Test.YtnfeefcnblondaaGreatDoorRows
import GoSem.ClaimSeven
namespace Go.Proofs.YtnfeefcnblondaaGreatDoor
namespace Rows

/-- THE TIED CARD OF 'laws.FnTreesBent'. -/
def fnTreesBentCard : Claim7 := { stood := { row := fnTreesBentRow, standIns := [], harness := (true, "065b41267c4c5e9090da389464e58b88279cae34746055c8646bd41f1c814ac9"), looks := false }, kinds := [], alts := [], laidByText := true, laidKinds := [.data, .pinned], laidTests := true, laidLooks := .later }
def FnTreesBentCardSaid : Prop := Claim7.holds Tryz.pinned (.plain (OpenSpec.ofChange fnTreesBentSpec)) fnTreesBentCard

/-- THE TIED CARD OF 'laws.FnExactApply'. -/
def fnExactApplyCard : Claim7 := { stood := { row := fnExactApplyRow, standIns := [], harness := (true, "065b41267c4c5e9090da389464e58b88279cae34746055c8646bd41f1c814ac9"), looks := false }, kinds := [], alts := [], laidByText := true, laidKinds := [.data, .pinned], laidTests := true, laidLooks := .later }
def FnExactApplyCardSaid : Prop := Claim7.holds Tryz.pinned (.plain (OpenSpec.ofChange fnExactApplySpec)) fnExactApplyCard

/-- THE TIED CARD OF 'laws.FnIdsRise'. -/
def fnIdsRiseCard : Claim7 := { stood := { row := fnIdsRiseRow, standIns := [], harness := (true, "065b41267c4c5e9090da389464e58b88279cae34746055c8646bd41f1c814ac9"), looks := false }, kinds := [], alts := [], laidByText := true, laidKinds := [.data, .pinned], laidTests := true, laidLooks := .later }
def FnIdsRiseCardSaid : Prop := Claim7.holds Tryz.pinned (.plain (OpenSpec.ofChange fnIdsRiseSpec)) fnIdsRiseCard

/-- THE TIED CARD OF 'laws.FnQuotaEdge'. -/
def fnQuotaEdgeCard : Claim7 := { stood := { row := fnQuotaEdgeRow, standIns := [], harness := (true, "065b41267c4c5e9090da389464e58b88279cae34746055c8646bd41f1c814ac9"), looks := false }, kinds := [], alts := [], laidByText := true, laidKinds := [.data, .pinned], laidTests := true, laidLooks := .later }
def FnQuotaEdgeCardSaid : Prop := Claim7.holds Tryz.pinned (.plain (OpenSpec.ofChange fnQuotaEdgeSpec)) fnQuotaEdgeCard

/-- THE TIED CARD OF 'laws.FnApart'. -/
def fnApartCard : Claim7 := { stood := { row := fnApartRow, standIns := [], harness := (true, "065b41267c4c5e9090da389464e58b88279cae34746055c8646bd41f1c814ac9"), looks := false }, kinds := [], alts := [], laidByText := true, laidKinds := [.data, .pinned], laidTests := true, laidLooks := .later }
def FnApartCardSaid : Prop := Claim7.holds Tryz.pinned (.plain (OpenSpec.ofChange fnApartSpec)) fnApartCard

/-- THE TIED CARD OF 'laws.FnHeldFast'. -/
def fnHeldFastCard : Claim7 := { stood := { row := fnHeldFastRow, standIns := [], harness := (true, "065b41267c4c5e9090da389464e58b88279cae34746055c8646bd41f1c814ac9"), looks := false }, kinds := [], alts := [], laidByText := true, laidKinds := [.data, .pinned], laidTests := true, laidLooks := .later }
def FnHeldFastCardSaid : Prop := Claim7.holds Tryz.pinned (.plain (OpenSpec.ofChange fnHeldFastSpec)) fnHeldFastCard

/-- THE TIED CARD OF 'laws.FnQuota'. -/
def fnQuotaCard : Claim7 := { stood := { row := fnQuotaRow, standIns := [], harness := (true, "065b41267c4c5e9090da389464e58b88279cae34746055c8646bd41f1c814ac9"), looks := false }, kinds := [], alts := [], laidByText := true, laidKinds := [.data, .pinned], laidTests := true, laidLooks := .later }
def FnQuotaCardSaid : Prop := Claim7.holds Tryz.pinned (.plain (OpenSpec.ofChange fnQuotaSpec)) fnQuotaCard

/-- THE SECOND FORM's CARD OF 'laws.FnTreesBent'. -/
def fnTreesBentUptoCard : Claim7 := { stood := { row := fnTreesBentUptoRow, standIns := [], harness := (true, "065b41267c4c5e9090da389464e58b88279cae34746055c8646bd41f1c814ac9"), looks := false }, kinds := [], alts := [], laidByText := true, laidKinds := [.data, .pinned], laidTests := true, laidLooks := .later }
def FnTreesBentUptoCardSaid : Prop := Claim7.holds Tryz.pinned (.plain (OpenSpec.upto fnTreesBentSpec)) fnTreesBentUptoCard

/-- THE SECOND FORM's CARD OF 'laws.FnExactApply'. -/
def fnExactApplyUptoCard : Claim7 := { stood := { row := fnExactApplyUptoRow, standIns := [], harness := (true, "065b41267c4c5e9090da389464e58b88279cae34746055c8646bd41f1c814ac9"), looks := false }, kinds := [], alts := [], laidByText := true, laidKinds := [.data, .pinned], laidTests := true, laidLooks := .later }
def FnExactApplyUptoCardSaid : Prop := Claim7.holds Tryz.pinned (.plain (OpenSpec.upto fnExactApplySpec)) fnExactApplyUptoCard

/-- THE SECOND FORM's CARD OF 'laws.FnIdsRise'. -/
def fnIdsRiseUptoCard : Claim7 := { stood := { row := fnIdsRiseUptoRow, standIns := [], harness := (true, "065b41267c4c5e9090da389464e58b88279cae34746055c8646bd41f1c814ac9"), looks := false }, kinds := [], alts := [], laidByText := true, laidKinds := [.data, .pinned], laidTests := true, laidLooks := .later }
def FnIdsRiseUptoCardSaid : Prop := Claim7.holds Tryz.pinned (.plain (OpenSpec.upto fnIdsRiseSpec)) fnIdsRiseUptoCard

/-- THE SECOND FORM's CARD OF 'laws.FnQuotaEdge'. -/
def fnQuotaEdgeUptoCard : Claim7 := { stood := { row := fnQuotaEdgeUptoRow, standIns := [], harness := (true, "065b41267c4c5e9090da389464e58b88279cae34746055c8646bd41f1c814ac9"), looks := false }, kinds := [], alts := [], laidByText := true, laidKinds := [.data, .pinned], laidTests := true, laidLooks := .later }
def FnQuotaEdgeUptoCardSaid : Prop := Claim7.holds Tryz.pinned (.plain (OpenSpec.upto fnQuotaEdgeSpec)) fnQuotaEdgeUptoCard

/-- THE SECOND FORM's CARD OF 'laws.FnApart'. -/
def fnApartUptoCard : Claim7 := { stood := { row := fnApartUptoRow, standIns := [], harness := (true, "065b41267c4c5e9090da389464e58b88279cae34746055c8646bd41f1c814ac9"), looks := false }, kinds := [], alts := [], laidByText := true, laidKinds := [.data, .pinned], laidTests := true, laidLooks := .later }
def FnApartUptoCardSaid : Prop := Claim7.holds Tryz.pinned (.plain (OpenSpec.upto fnApartSpec)) fnApartUptoCard

/-- THE SECOND FORM's CARD OF 'laws.FnHeldFast'. -/
def fnHeldFastUptoCard : Claim7 := { stood := { row := fnHeldFastUptoRow, standIns := [], harness := (true, "065b41267c4c5e9090da389464e58b88279cae34746055c8646bd41f1c814ac9"), looks := false }, kinds := [], alts := [], laidByText := true, laidKinds := [.data, .pinned], laidTests := true, laidLooks := .later }
def FnHeldFastUptoCardSaid : Prop := Claim7.holds Tryz.pinned (.plain (OpenSpec.upto fnHeldFastSpec)) fnHeldFastUptoCard

/-- THE SECOND FORM's CARD OF 'laws.FnQuota'. -/
def fnQuotaUptoCard : Claim7 := { stood := { row := fnQuotaUptoRow, standIns := [], harness := (true, "065b41267c4c5e9090da389464e58b88279cae34746055c8646bd41f1c814ac9"), looks := false }, kinds := [], alts := [], laidByText := true, laidKinds := [.data, .pinned], laidTests := true, laidLooks := .later }
def FnQuotaUptoCardSaid : Prop := Claim7.holds Tryz.pinned (.plain (OpenSpec.upto fnQuotaSpec)) fnQuotaUptoCard
end Rows
end Go.Proofs.YtnfeefcnblondaaGreatDoor
