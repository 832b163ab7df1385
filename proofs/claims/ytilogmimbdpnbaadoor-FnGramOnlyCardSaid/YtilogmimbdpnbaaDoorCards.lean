/-
  DERIVED. GIVEN WITH THE SEED: THE CARDS: each row of YtilogmimbdpnbaaDoorRows.lean that lists a variable, with what it lists TIED to the program's text (the seventh form; the later family's looks); each row that meets fmt, with fmt's text TOLD by the authors' own Lean function (tested against real Go, not proved from fmt's source: count such statements apart). THE CARD IS WHAT COUNTS. Prove the row's statement (the work); the ties are given (YtilogmimbdpnbaaDoorTie.lean); close each card by the builder's one call (the guide's Derived/Test/ToyasCard.lean, 'card_holds'). Laid BY PROGRAM, IN A SANDBOX (cutbox-door.mjs). By AI agents, Wed Nov 11 2026. No macro, syntax, notation, axiom, sorry.
-/
import Derived.Test.YtilogmimbdpnbaaDoorRows
import GoSem.ClaimSeven
namespace Go.Proofs.YtilogmimbdpnbaaDoor
namespace Rows

/-- THE TIED CARD OF 'laws.FnEditBack'. -/
def fnEditBackCard : Claim7 := { stood := { row := fnEditBackRow, standIns := [], harness := (true, "f1cb90fbffe87c4b40d6aabd9a00e3be6411dbe7ce55046faa450ccaca21647f"), looks := false }, kinds := [], alts := [], laidByText := true, laidKinds := [.data, .pinned], laidTests := true, laidLooks := .later }
def FnEditBackCardSaid : Prop := Claim7.holds Tryd.pinned (.plain (OpenSpec.ofChange fnEditBackSpec)) fnEditBackCard

/-- THE TIED CARD OF 'laws.FnEditsUndo'. -/
def fnEditsUndoCard : Claim7 := { stood := { row := fnEditsUndoRow, standIns := [], harness := (true, "f1cb90fbffe87c4b40d6aabd9a00e3be6411dbe7ce55046faa450ccaca21647f"), looks := false }, kinds := [], alts := [], laidByText := true, laidKinds := [.data, .pinned], laidTests := true, laidLooks := .later }
def FnEditsUndoCardSaid : Prop := Claim7.holds Tryd.pinned (.plain (OpenSpec.ofChange fnEditsUndoSpec)) fnEditsUndoCard

/-- THE TIED CARD OF 'laws.FnEditsDo'. -/
def fnEditsDoCard : Claim7 := { stood := { row := fnEditsDoRow, standIns := [], harness := (true, "f1cb90fbffe87c4b40d6aabd9a00e3be6411dbe7ce55046faa450ccaca21647f"), looks := false }, kinds := [], alts := [], laidByText := true, laidKinds := [.data, .pinned], laidTests := true, laidLooks := .later }
def FnEditsDoCardSaid : Prop := Claim7.holds Tryd.pinned (.plain (OpenSpec.ofChange fnEditsDoSpec)) fnEditsDoCard

/-- THE TIED CARD OF 'laws.FnGramMore'. -/
def fnGramMoreCard : Claim7 := { stood := { row := fnGramMoreRow, standIns := [], harness := (true, "f1cb90fbffe87c4b40d6aabd9a00e3be6411dbe7ce55046faa450ccaca21647f"), looks := false }, kinds := [], alts := [], laidByText := true, laidKinds := [.data, .pinned], laidTests := true, laidLooks := .later }
def FnGramMoreCardSaid : Prop := Claim7.holds Tryd.pinned (.plain (OpenSpec.ofChange fnGramMoreSpec)) fnGramMoreCard

/-- THE TIED CARD OF 'laws.FnGramFor'. -/
def fnGramForCard : Claim7 := { stood := { row := fnGramForRow, standIns := [], harness := (true, "f1cb90fbffe87c4b40d6aabd9a00e3be6411dbe7ce55046faa450ccaca21647f"), looks := false }, kinds := [], alts := [], laidByText := true, laidKinds := [.data, .pinned], laidTests := true, laidLooks := .later }
def FnGramForCardSaid : Prop := Claim7.holds Tryd.pinned (.plain (OpenSpec.ofChange fnGramForSpec)) fnGramForCard

/-- THE TIED CARD OF 'laws.FnGramOnly'. -/
def fnGramOnlyCard : Claim7 := { stood := { row := fnGramOnlyRow, standIns := [], harness := (true, "f1cb90fbffe87c4b40d6aabd9a00e3be6411dbe7ce55046faa450ccaca21647f"), looks := false }, kinds := [], alts := [], laidByText := true, laidKinds := [.data, .pinned], laidTests := true, laidLooks := .later }
def FnGramOnlyCardSaid : Prop := Claim7.holds Tryd.pinned (.plain (OpenSpec.ofChange fnGramOnlySpec)) fnGramOnlyCard

/-- THE TIED CARD OF 'laws.FnTableSame'. -/
def fnTableSameCard : Claim7 := { stood := { row := fnTableSameRow, standIns := [], harness := (true, "f1cb90fbffe87c4b40d6aabd9a00e3be6411dbe7ce55046faa450ccaca21647f"), looks := false }, kinds := [], alts := [], laidByText := true, laidKinds := [.data, .pinned], laidTests := true, laidLooks := .later }
def FnTableSameCardSaid : Prop := Claim7.holds Tryd.pinned (.plain (OpenSpec.ofChange fnTableSameSpec)) fnTableSameCard

/-- THE TIED CARD OF 'laws.FnItemOk'. -/
def fnItemOkCard : Claim7 := { stood := { row := fnItemOkRow, standIns := [], harness := (true, "f1cb90fbffe87c4b40d6aabd9a00e3be6411dbe7ce55046faa450ccaca21647f"), looks := false }, kinds := [], alts := [], laidByText := true, laidKinds := [.data, .pinned], laidTests := true, laidLooks := .later }
def FnItemOkCardSaid : Prop := Claim7.holds Tryd.pinned (.plain (OpenSpec.ofChange fnItemOkSpec)) fnItemOkCard

/-- THE SECOND FORM's CARD OF 'laws.FnEditBack'. -/
def fnEditBackUptoCard : Claim7 := { stood := { row := fnEditBackUptoRow, standIns := [], harness := (true, "f1cb90fbffe87c4b40d6aabd9a00e3be6411dbe7ce55046faa450ccaca21647f"), looks := false }, kinds := [], alts := [], laidByText := true, laidKinds := [.data, .pinned], laidTests := true, laidLooks := .later }
def FnEditBackUptoCardSaid : Prop := Claim7.holds Tryd.pinned (.plain (OpenSpec.upto fnEditBackSpec)) fnEditBackUptoCard

/-- THE SECOND FORM's CARD OF 'laws.FnEditsUndo'. -/
def fnEditsUndoUptoCard : Claim7 := { stood := { row := fnEditsUndoUptoRow, standIns := [], harness := (true, "f1cb90fbffe87c4b40d6aabd9a00e3be6411dbe7ce55046faa450ccaca21647f"), looks := false }, kinds := [], alts := [], laidByText := true, laidKinds := [.data, .pinned], laidTests := true, laidLooks := .later }
def FnEditsUndoUptoCardSaid : Prop := Claim7.holds Tryd.pinned (.plain (OpenSpec.upto fnEditsUndoSpec)) fnEditsUndoUptoCard

/-- THE SECOND FORM's CARD OF 'laws.FnEditsDo'. -/
def fnEditsDoUptoCard : Claim7 := { stood := { row := fnEditsDoUptoRow, standIns := [], harness := (true, "f1cb90fbffe87c4b40d6aabd9a00e3be6411dbe7ce55046faa450ccaca21647f"), looks := false }, kinds := [], alts := [], laidByText := true, laidKinds := [.data, .pinned], laidTests := true, laidLooks := .later }
def FnEditsDoUptoCardSaid : Prop := Claim7.holds Tryd.pinned (.plain (OpenSpec.upto fnEditsDoSpec)) fnEditsDoUptoCard

/-- THE SECOND FORM's CARD OF 'laws.FnGramMore'. -/
def fnGramMoreUptoCard : Claim7 := { stood := { row := fnGramMoreUptoRow, standIns := [], harness := (true, "f1cb90fbffe87c4b40d6aabd9a00e3be6411dbe7ce55046faa450ccaca21647f"), looks := false }, kinds := [], alts := [], laidByText := true, laidKinds := [.data, .pinned], laidTests := true, laidLooks := .later }
def FnGramMoreUptoCardSaid : Prop := Claim7.holds Tryd.pinned (.plain (OpenSpec.upto fnGramMoreSpec)) fnGramMoreUptoCard

/-- THE SECOND FORM's CARD OF 'laws.FnGramFor'. -/
def fnGramForUptoCard : Claim7 := { stood := { row := fnGramForUptoRow, standIns := [], harness := (true, "f1cb90fbffe87c4b40d6aabd9a00e3be6411dbe7ce55046faa450ccaca21647f"), looks := false }, kinds := [], alts := [], laidByText := true, laidKinds := [.data, .pinned], laidTests := true, laidLooks := .later }
def FnGramForUptoCardSaid : Prop := Claim7.holds Tryd.pinned (.plain (OpenSpec.upto fnGramForSpec)) fnGramForUptoCard

/-- THE SECOND FORM's CARD OF 'laws.FnGramOnly'. -/
def fnGramOnlyUptoCard : Claim7 := { stood := { row := fnGramOnlyUptoRow, standIns := [], harness := (true, "f1cb90fbffe87c4b40d6aabd9a00e3be6411dbe7ce55046faa450ccaca21647f"), looks := false }, kinds := [], alts := [], laidByText := true, laidKinds := [.data, .pinned], laidTests := true, laidLooks := .later }
def FnGramOnlyUptoCardSaid : Prop := Claim7.holds Tryd.pinned (.plain (OpenSpec.upto fnGramOnlySpec)) fnGramOnlyUptoCard

/-- THE SECOND FORM's CARD OF 'laws.FnTableSame'. -/
def fnTableSameUptoCard : Claim7 := { stood := { row := fnTableSameUptoRow, standIns := [], harness := (true, "f1cb90fbffe87c4b40d6aabd9a00e3be6411dbe7ce55046faa450ccaca21647f"), looks := false }, kinds := [], alts := [], laidByText := true, laidKinds := [.data, .pinned], laidTests := true, laidLooks := .later }
def FnTableSameUptoCardSaid : Prop := Claim7.holds Tryd.pinned (.plain (OpenSpec.upto fnTableSameSpec)) fnTableSameUptoCard

/-- THE SECOND FORM's CARD OF 'laws.FnItemOk'. -/
def fnItemOkUptoCard : Claim7 := { stood := { row := fnItemOkUptoRow, standIns := [], harness := (true, "f1cb90fbffe87c4b40d6aabd9a00e3be6411dbe7ce55046faa450ccaca21647f"), looks := false }, kinds := [], alts := [], laidByText := true, laidKinds := [.data, .pinned], laidTests := true, laidLooks := .later }
def FnItemOkUptoCardSaid : Prop := Claim7.holds Tryd.pinned (.plain (OpenSpec.upto fnItemOkSpec)) fnItemOkUptoCard
end Rows
end Go.Proofs.YtilogmimbdpnbaaDoor
