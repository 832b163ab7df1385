/-
  DERIVED. GIVEN WITH THE SEED: THE CARDS: each row of YtkofhmmfhmipgaaDoorRows.lean that lists a variable, with what it lists TIED to the program's text (the seventh form; the later family's looks); each row that meets fmt, with fmt's text TOLD by the authors' own Lean function (tested against real Go, not proved from fmt's source: count such statements apart). THE CARD IS WHAT COUNTS. Prove the row's statement (the work); the ties are given (YtkofhmmfhmipgaaDoorTie.lean); close each card by the builder's one call (the guide's Derived/Test/ToyasCard.lean, 'card_holds'). Laid BY PROGRAM, IN A SANDBOX (cutbox-door.mjs). By AI agents, Wed Nov 11 2026. No macro, syntax, notation, axiom, sorry.
-/
import Derived.Test.YtkofhmmfhmipgaaDoorRows
import GoSem.ClaimSeven
namespace Go.Proofs.YtkofhmmfhmipgaaDoor
namespace Rows

/-- THE TIED CARD OF 'laws.FnTreePart'. -/
def fnTreePartCard : Claim7 := { stood := { row := fnTreePartRow, standIns := [], harness := (true, "438a16c43d7f29a01cd261a240d29225444e7e8d0f85e6a360dffd7ed6e0c22d"), looks := false }, kinds := [], alts := [], laidByText := true, laidKinds := [.data, .pinned], laidTests := true, laidLooks := .later }
def FnTreePartCardSaid : Prop := Claim7.holds Tryd.pinned (.plain (OpenSpec.ofChange fnTreePartSpec)) fnTreePartCard

/-- THE TIED CARD OF 'laws.FnTreeTurn'. -/
def fnTreeTurnCard : Claim7 := { stood := { row := fnTreeTurnRow, standIns := [], harness := (true, "438a16c43d7f29a01cd261a240d29225444e7e8d0f85e6a360dffd7ed6e0c22d"), looks := false }, kinds := [], alts := [], laidByText := true, laidKinds := [.data, .pinned], laidTests := true, laidLooks := .later }
def FnTreeTurnCardSaid : Prop := Claim7.holds Tryd.pinned (.plain (OpenSpec.ofChange fnTreeTurnSpec)) fnTreeTurnCard

/-- THE TIED CARD OF 'laws.FnGramTurn'. -/
def fnGramTurnCard : Claim7 := { stood := { row := fnGramTurnRow, standIns := [], harness := (true, "438a16c43d7f29a01cd261a240d29225444e7e8d0f85e6a360dffd7ed6e0c22d"), looks := false }, kinds := [], alts := [], laidByText := true, laidKinds := [.data, .pinned], laidTests := true, laidLooks := .later }
def FnGramTurnCardSaid : Prop := Claim7.holds Tryd.pinned (.plain (OpenSpec.ofChange fnGramTurnSpec)) fnGramTurnCard

/-- THE TIED CARD OF 'laws.FnTreeMany'. -/
def fnTreeManyCard : Claim7 := { stood := { row := fnTreeManyRow, standIns := [], harness := (true, "438a16c43d7f29a01cd261a240d29225444e7e8d0f85e6a360dffd7ed6e0c22d"), looks := false }, kinds := [], alts := [], laidByText := true, laidKinds := [.data, .pinned], laidTests := true, laidLooks := .later }
def FnTreeManyCardSaid : Prop := Claim7.holds Tryd.pinned (.plain (OpenSpec.ofChange fnTreeManySpec)) fnTreeManyCard

/-- THE TIED CARD OF 'laws.FnTreeFrom'. -/
def fnTreeFromCard : Claim7 := { stood := { row := fnTreeFromRow, standIns := [], harness := (true, "438a16c43d7f29a01cd261a240d29225444e7e8d0f85e6a360dffd7ed6e0c22d"), looks := false }, kinds := [], alts := [], laidByText := true, laidKinds := [.data, .pinned], laidTests := true, laidLooks := .later }
def FnTreeFromCardSaid : Prop := Claim7.holds Tryd.pinned (.plain (OpenSpec.ofChange fnTreeFromSpec)) fnTreeFromCard

/-- THE TIED CARD OF 'laws.FnTreeBack'. -/
def fnTreeBackCard : Claim7 := { stood := { row := fnTreeBackRow, standIns := [], harness := (true, "438a16c43d7f29a01cd261a240d29225444e7e8d0f85e6a360dffd7ed6e0c22d"), looks := false }, kinds := [], alts := [], laidByText := true, laidKinds := [.data, .pinned], laidTests := true, laidLooks := .later }
def FnTreeBackCardSaid : Prop := Claim7.holds Tryd.pinned (.plain (OpenSpec.ofChange fnTreeBackSpec)) fnTreeBackCard

/-- THE TIED CARD OF 'laws.FnGramText'. -/
def fnGramTextCard : Claim7 := { stood := { row := fnGramTextRow, standIns := [], harness := (true, "438a16c43d7f29a01cd261a240d29225444e7e8d0f85e6a360dffd7ed6e0c22d"), looks := false }, kinds := [], alts := [], laidByText := true, laidKinds := [.data, .pinned], laidTests := true, laidLooks := .later }
def FnGramTextCardSaid : Prop := Claim7.holds Tryd.pinned (.plain (OpenSpec.ofChange fnGramTextSpec)) fnGramTextCard

/-- THE TIED CARD OF 'laws.FnTreeSmall'. -/
def fnTreeSmallCard : Claim7 := { stood := { row := fnTreeSmallRow, standIns := [], harness := (true, "438a16c43d7f29a01cd261a240d29225444e7e8d0f85e6a360dffd7ed6e0c22d"), looks := false }, kinds := [], alts := [], laidByText := true, laidKinds := [.data, .pinned], laidTests := true, laidLooks := .later }
def FnTreeSmallCardSaid : Prop := Claim7.holds Tryd.pinned (.plain (OpenSpec.ofChange fnTreeSmallSpec)) fnTreeSmallCard

/-- THE TIED CARD OF 'laws.FnTreeBent'. -/
def fnTreeBentCard : Claim7 := { stood := { row := fnTreeBentRow, standIns := [], harness := (true, "438a16c43d7f29a01cd261a240d29225444e7e8d0f85e6a360dffd7ed6e0c22d"), looks := false }, kinds := [], alts := [], laidByText := true, laidKinds := [.data, .data, .data, .data, .pinned], laidTests := true, laidLooks := .later }
def FnTreeBentCardSaid : Prop := Claim7.holds Tryd.pinned (.plain (OpenSpec.ofChange fnTreeBentSpec)) fnTreeBentCard

/-- THE TIED CARD OF 'laws.FnItemsText'. -/
def fnItemsTextCard : Claim7 := { stood := { row := fnItemsTextRow, standIns := [], harness := (true, "438a16c43d7f29a01cd261a240d29225444e7e8d0f85e6a360dffd7ed6e0c22d"), looks := false }, kinds := [], alts := [], laidByText := true, laidKinds := [.data, .pinned], laidTests := true, laidLooks := .later }
def FnItemsTextCardSaid : Prop := Claim7.holds Tryd.pinned (.plain (OpenSpec.ofChange fnItemsTextSpec)) fnItemsTextCard

/-- THE SECOND FORM's CARD OF 'laws.FnTreePart'. -/
def fnTreePartUptoCard : Claim7 := { stood := { row := fnTreePartUptoRow, standIns := [], harness := (true, "438a16c43d7f29a01cd261a240d29225444e7e8d0f85e6a360dffd7ed6e0c22d"), looks := false }, kinds := [], alts := [], laidByText := true, laidKinds := [.data, .pinned], laidTests := true, laidLooks := .later }
def FnTreePartUptoCardSaid : Prop := Claim7.holds Tryd.pinned (.plain (OpenSpec.upto fnTreePartSpec)) fnTreePartUptoCard

/-- THE SECOND FORM's CARD OF 'laws.FnTreeTurn'. -/
def fnTreeTurnUptoCard : Claim7 := { stood := { row := fnTreeTurnUptoRow, standIns := [], harness := (true, "438a16c43d7f29a01cd261a240d29225444e7e8d0f85e6a360dffd7ed6e0c22d"), looks := false }, kinds := [], alts := [], laidByText := true, laidKinds := [.data, .pinned], laidTests := true, laidLooks := .later }
def FnTreeTurnUptoCardSaid : Prop := Claim7.holds Tryd.pinned (.plain (OpenSpec.upto fnTreeTurnSpec)) fnTreeTurnUptoCard

/-- THE SECOND FORM's CARD OF 'laws.FnGramTurn'. -/
def fnGramTurnUptoCard : Claim7 := { stood := { row := fnGramTurnUptoRow, standIns := [], harness := (true, "438a16c43d7f29a01cd261a240d29225444e7e8d0f85e6a360dffd7ed6e0c22d"), looks := false }, kinds := [], alts := [], laidByText := true, laidKinds := [.data, .pinned], laidTests := true, laidLooks := .later }
def FnGramTurnUptoCardSaid : Prop := Claim7.holds Tryd.pinned (.plain (OpenSpec.upto fnGramTurnSpec)) fnGramTurnUptoCard

/-- THE SECOND FORM's CARD OF 'laws.FnTreeMany'. -/
def fnTreeManyUptoCard : Claim7 := { stood := { row := fnTreeManyUptoRow, standIns := [], harness := (true, "438a16c43d7f29a01cd261a240d29225444e7e8d0f85e6a360dffd7ed6e0c22d"), looks := false }, kinds := [], alts := [], laidByText := true, laidKinds := [.data, .pinned], laidTests := true, laidLooks := .later }
def FnTreeManyUptoCardSaid : Prop := Claim7.holds Tryd.pinned (.plain (OpenSpec.upto fnTreeManySpec)) fnTreeManyUptoCard

/-- THE SECOND FORM's CARD OF 'laws.FnTreeFrom'. -/
def fnTreeFromUptoCard : Claim7 := { stood := { row := fnTreeFromUptoRow, standIns := [], harness := (true, "438a16c43d7f29a01cd261a240d29225444e7e8d0f85e6a360dffd7ed6e0c22d"), looks := false }, kinds := [], alts := [], laidByText := true, laidKinds := [.data, .pinned], laidTests := true, laidLooks := .later }
def FnTreeFromUptoCardSaid : Prop := Claim7.holds Tryd.pinned (.plain (OpenSpec.upto fnTreeFromSpec)) fnTreeFromUptoCard

/-- THE SECOND FORM's CARD OF 'laws.FnTreeBack'. -/
def fnTreeBackUptoCard : Claim7 := { stood := { row := fnTreeBackUptoRow, standIns := [], harness := (true, "438a16c43d7f29a01cd261a240d29225444e7e8d0f85e6a360dffd7ed6e0c22d"), looks := false }, kinds := [], alts := [], laidByText := true, laidKinds := [.data, .pinned], laidTests := true, laidLooks := .later }
def FnTreeBackUptoCardSaid : Prop := Claim7.holds Tryd.pinned (.plain (OpenSpec.upto fnTreeBackSpec)) fnTreeBackUptoCard

/-- THE SECOND FORM's CARD OF 'laws.FnGramText'. -/
def fnGramTextUptoCard : Claim7 := { stood := { row := fnGramTextUptoRow, standIns := [], harness := (true, "438a16c43d7f29a01cd261a240d29225444e7e8d0f85e6a360dffd7ed6e0c22d"), looks := false }, kinds := [], alts := [], laidByText := true, laidKinds := [.data, .pinned], laidTests := true, laidLooks := .later }
def FnGramTextUptoCardSaid : Prop := Claim7.holds Tryd.pinned (.plain (OpenSpec.upto fnGramTextSpec)) fnGramTextUptoCard

/-- THE SECOND FORM's CARD OF 'laws.FnTreeSmall'. -/
def fnTreeSmallUptoCard : Claim7 := { stood := { row := fnTreeSmallUptoRow, standIns := [], harness := (true, "438a16c43d7f29a01cd261a240d29225444e7e8d0f85e6a360dffd7ed6e0c22d"), looks := false }, kinds := [], alts := [], laidByText := true, laidKinds := [.data, .pinned], laidTests := true, laidLooks := .later }
def FnTreeSmallUptoCardSaid : Prop := Claim7.holds Tryd.pinned (.plain (OpenSpec.upto fnTreeSmallSpec)) fnTreeSmallUptoCard

/-- THE SECOND FORM's CARD OF 'laws.FnTreeBent'. -/
def fnTreeBentUptoCard : Claim7 := { stood := { row := fnTreeBentUptoRow, standIns := [], harness := (true, "438a16c43d7f29a01cd261a240d29225444e7e8d0f85e6a360dffd7ed6e0c22d"), looks := false }, kinds := [], alts := [], laidByText := true, laidKinds := [.data, .data, .data, .data, .pinned], laidTests := true, laidLooks := .later }
def FnTreeBentUptoCardSaid : Prop := Claim7.holds Tryd.pinned (.plain (OpenSpec.upto fnTreeBentSpec)) fnTreeBentUptoCard

/-- THE SECOND FORM's CARD OF 'laws.FnItemsText'. -/
def fnItemsTextUptoCard : Claim7 := { stood := { row := fnItemsTextUptoRow, standIns := [], harness := (true, "438a16c43d7f29a01cd261a240d29225444e7e8d0f85e6a360dffd7ed6e0c22d"), looks := false }, kinds := [], alts := [], laidByText := true, laidKinds := [.data, .pinned], laidTests := true, laidLooks := .later }
def FnItemsTextUptoCardSaid : Prop := Claim7.holds Tryd.pinned (.plain (OpenSpec.upto fnItemsTextSpec)) fnItemsTextUptoCard
end Rows
end Go.Proofs.YtkofhmmfhmipgaaDoor
