/-
  DERIVED. GIVEN WITH THE SEED: THE CARDS: each row of YtpoppblfnaipbaaDoorRows.lean that lists a variable, with what it lists TIED to the program's text (the seventh form; the later family's looks); each row that meets fmt, with fmt's text TOLD by the authors' own Lean function (tested against real Go, not proved from fmt's source: count such statements apart). THE CARD IS WHAT COUNTS. Prove the row's statement (the work); the ties are given (YtpoppblfnaipbaaDoorTie.lean); close each card by the builder's one call (the guide's Derived/Test/ToyasCard.lean, 'card_holds'). Laid BY PROGRAM, IN A SANDBOX (cutbox-door.mjs). By AI agents, Wed Nov 11 2026. No macro, syntax, notation, axiom, sorry.
-/
import Derived.Test.YtpoppblfnaipbaaDoorRows
import GoSem.ClaimSeven
namespace Go.Proofs.YtpoppblfnaipbaaDoor
namespace Rows

/-- THE TIED CARD OF 'laws.FnGramText'. -/
def fnGramTextCard : Claim7 := { stood := { row := fnGramTextRow, standIns := [], harness := (true, "4d7b81c06c46b555a23a78d64cb66e9a783ac973161f3c81c161e5ebe9c2e55f"), looks := false }, kinds := [], alts := [], laidByText := true, laidKinds := [.data, .pinned], laidTests := true, laidLooks := .later }
def FnGramTextCardSaid : Prop := Claim7.holds Tryd.pinned (.plain (OpenSpec.ofChange fnGramTextSpec)) fnGramTextCard

/-- THE TIED CARD OF 'laws.FnItemsText'. -/
def fnItemsTextCard : Claim7 := { stood := { row := fnItemsTextRow, standIns := [], harness := (true, "4d7b81c06c46b555a23a78d64cb66e9a783ac973161f3c81c161e5ebe9c2e55f"), looks := false }, kinds := [], alts := [], laidByText := true, laidKinds := [.data, .pinned], laidTests := true, laidLooks := .later }
def FnItemsTextCardSaid : Prop := Claim7.holds Tryd.pinned (.plain (OpenSpec.ofChange fnItemsTextSpec)) fnItemsTextCard

/-- THE SECOND FORM's CARD OF 'laws.FnGramText'. -/
def fnGramTextUptoCard : Claim7 := { stood := { row := fnGramTextUptoRow, standIns := [], harness := (true, "4d7b81c06c46b555a23a78d64cb66e9a783ac973161f3c81c161e5ebe9c2e55f"), looks := false }, kinds := [], alts := [], laidByText := true, laidKinds := [.data, .pinned], laidTests := true, laidLooks := .later }
def FnGramTextUptoCardSaid : Prop := Claim7.holds Tryd.pinned (.plain (OpenSpec.upto fnGramTextSpec)) fnGramTextUptoCard

/-- THE SECOND FORM's CARD OF 'laws.FnItemsText'. -/
def fnItemsTextUptoCard : Claim7 := { stood := { row := fnItemsTextUptoRow, standIns := [], harness := (true, "4d7b81c06c46b555a23a78d64cb66e9a783ac973161f3c81c161e5ebe9c2e55f"), looks := false }, kinds := [], alts := [], laidByText := true, laidKinds := [.data, .pinned], laidTests := true, laidLooks := .later }
def FnItemsTextUptoCardSaid : Prop := Claim7.holds Tryd.pinned (.plain (OpenSpec.upto fnItemsTextSpec)) fnItemsTextUptoCard
end Rows
end Go.Proofs.YtpoppblfnaipbaaDoor
