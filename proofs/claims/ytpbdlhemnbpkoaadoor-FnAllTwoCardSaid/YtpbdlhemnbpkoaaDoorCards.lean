/-
  DERIVED. GIVEN WITH THE SEED: THE CARDS: each row of YtpbdlhemnbpkoaaDoorRows.lean that lists a variable, with what it lists TIED to the program's text (the seventh form; the later family's looks); each row that meets fmt, with fmt's text TOLD by the authors' own Lean function (tested against real Go, not proved from fmt's source: count such statements apart). THE CARD IS WHAT COUNTS. Prove the row's statement (the work); the ties are given (YtpbdlhemnbpkoaaDoorTie.lean); close each card by the builder's one call (the guide's Derived/Test/ToyasCard.lean, 'card_holds'). Laid BY PROGRAM, IN A SANDBOX (cutbox-door.mjs). By AI agents, Wed Nov 11 2026. No macro, syntax, notation, axiom, sorry.
-/
import Derived.Test.YtpbdlhemnbpkoaaDoorRows
import GoSem.ClaimSeven
namespace Go.Proofs.YtpbdlhemnbpkoaaDoor
namespace Rows

/-- THE TIED CARD OF 'laws.FnTurnMend'. -/
def fnTurnMendCard : Claim7 := { stood := { row := fnTurnMendRow, standIns := [], harness := (true, "feb54962bbd428d206f4fa9067e81e0cb107258b13971de46778db99b67cf21c"), looks := false }, kinds := [], alts := [], laidByText := true, laidKinds := [.data, .pinned], laidTests := true, laidLooks := .later }
def FnTurnMendCardSaid : Prop := Claim7.holds Tryd.pinned (.plain (OpenSpec.ofChange fnTurnMendSpec)) fnTurnMendCard

/-- THE TIED CARD OF 'laws.FnExactMendFar'. -/
def fnExactMendFarCard : Claim7 := { stood := { row := fnExactMendFarRow, standIns := [], harness := (true, "feb54962bbd428d206f4fa9067e81e0cb107258b13971de46778db99b67cf21c"), looks := false }, kinds := [], alts := [], laidByText := true, laidKinds := [.data, .pinned], laidTests := true, laidLooks := .later }
def FnExactMendFarCardSaid : Prop := Claim7.holds Tryd.pinned (.plain (OpenSpec.ofChange fnExactMendFarSpec)) fnExactMendFarCard

/-- THE TIED CARD OF 'laws.FnMendMore'. -/
def fnMendMoreCard : Claim7 := { stood := { row := fnMendMoreRow, standIns := [], harness := (true, "feb54962bbd428d206f4fa9067e81e0cb107258b13971de46778db99b67cf21c"), looks := false }, kinds := [], alts := [], laidByText := true, laidKinds := [.data, .pinned], laidTests := true, laidLooks := .later }
def FnMendMoreCardSaid : Prop := Claim7.holds Tryd.pinned (.plain (OpenSpec.ofChange fnMendMoreSpec)) fnMendMoreCard

/-- THE TIED CARD OF 'laws.FnAllMore'. -/
def fnAllMoreCard : Claim7 := { stood := { row := fnAllMoreRow, standIns := [], harness := (true, "feb54962bbd428d206f4fa9067e81e0cb107258b13971de46778db99b67cf21c"), looks := false }, kinds := [], alts := [], laidByText := true, laidKinds := [.data, .pinned], laidTests := true, laidLooks := .later }
def FnAllMoreCardSaid : Prop := Claim7.holds Tryd.pinned (.plain (OpenSpec.ofChange fnAllMoreSpec)) fnAllMoreCard

/-- THE TIED CARD OF 'laws.FnAllTwo'. -/
def fnAllTwoCard : Claim7 := { stood := { row := fnAllTwoRow, standIns := [], harness := (true, "feb54962bbd428d206f4fa9067e81e0cb107258b13971de46778db99b67cf21c"), looks := false }, kinds := [], alts := [], laidByText := true, laidKinds := [.data, .pinned], laidTests := true, laidLooks := .later }
def FnAllTwoCardSaid : Prop := Claim7.holds Tryd.pinned (.plain (OpenSpec.ofChange fnAllTwoSpec)) fnAllTwoCard

/-- THE TIED CARD OF 'laws.FnAllTree'. -/
def fnAllTreeCard : Claim7 := { stood := { row := fnAllTreeRow, standIns := [], harness := (true, "feb54962bbd428d206f4fa9067e81e0cb107258b13971de46778db99b67cf21c"), looks := false }, kinds := [], alts := [], laidByText := true, laidKinds := [.data, .pinned], laidTests := true, laidLooks := .later }
def FnAllTreeCardSaid : Prop := Claim7.holds Tryd.pinned (.plain (OpenSpec.ofChange fnAllTreeSpec)) fnAllTreeCard

/-- THE SECOND FORM's CARD OF 'laws.FnTurnMend'. -/
def fnTurnMendUptoCard : Claim7 := { stood := { row := fnTurnMendUptoRow, standIns := [], harness := (true, "feb54962bbd428d206f4fa9067e81e0cb107258b13971de46778db99b67cf21c"), looks := false }, kinds := [], alts := [], laidByText := true, laidKinds := [.data, .pinned], laidTests := true, laidLooks := .later }
def FnTurnMendUptoCardSaid : Prop := Claim7.holds Tryd.pinned (.plain (OpenSpec.upto fnTurnMendSpec)) fnTurnMendUptoCard

/-- THE SECOND FORM's CARD OF 'laws.FnExactMendFar'. -/
def fnExactMendFarUptoCard : Claim7 := { stood := { row := fnExactMendFarUptoRow, standIns := [], harness := (true, "feb54962bbd428d206f4fa9067e81e0cb107258b13971de46778db99b67cf21c"), looks := false }, kinds := [], alts := [], laidByText := true, laidKinds := [.data, .pinned], laidTests := true, laidLooks := .later }
def FnExactMendFarUptoCardSaid : Prop := Claim7.holds Tryd.pinned (.plain (OpenSpec.upto fnExactMendFarSpec)) fnExactMendFarUptoCard

/-- THE SECOND FORM's CARD OF 'laws.FnMendMore'. -/
def fnMendMoreUptoCard : Claim7 := { stood := { row := fnMendMoreUptoRow, standIns := [], harness := (true, "feb54962bbd428d206f4fa9067e81e0cb107258b13971de46778db99b67cf21c"), looks := false }, kinds := [], alts := [], laidByText := true, laidKinds := [.data, .pinned], laidTests := true, laidLooks := .later }
def FnMendMoreUptoCardSaid : Prop := Claim7.holds Tryd.pinned (.plain (OpenSpec.upto fnMendMoreSpec)) fnMendMoreUptoCard

/-- THE SECOND FORM's CARD OF 'laws.FnAllMore'. -/
def fnAllMoreUptoCard : Claim7 := { stood := { row := fnAllMoreUptoRow, standIns := [], harness := (true, "feb54962bbd428d206f4fa9067e81e0cb107258b13971de46778db99b67cf21c"), looks := false }, kinds := [], alts := [], laidByText := true, laidKinds := [.data, .pinned], laidTests := true, laidLooks := .later }
def FnAllMoreUptoCardSaid : Prop := Claim7.holds Tryd.pinned (.plain (OpenSpec.upto fnAllMoreSpec)) fnAllMoreUptoCard

/-- THE SECOND FORM's CARD OF 'laws.FnAllTwo'. -/
def fnAllTwoUptoCard : Claim7 := { stood := { row := fnAllTwoUptoRow, standIns := [], harness := (true, "feb54962bbd428d206f4fa9067e81e0cb107258b13971de46778db99b67cf21c"), looks := false }, kinds := [], alts := [], laidByText := true, laidKinds := [.data, .pinned], laidTests := true, laidLooks := .later }
def FnAllTwoUptoCardSaid : Prop := Claim7.holds Tryd.pinned (.plain (OpenSpec.upto fnAllTwoSpec)) fnAllTwoUptoCard

/-- THE SECOND FORM's CARD OF 'laws.FnAllTree'. -/
def fnAllTreeUptoCard : Claim7 := { stood := { row := fnAllTreeUptoRow, standIns := [], harness := (true, "feb54962bbd428d206f4fa9067e81e0cb107258b13971de46778db99b67cf21c"), looks := false }, kinds := [], alts := [], laidByText := true, laidKinds := [.data, .pinned], laidTests := true, laidLooks := .later }
def FnAllTreeUptoCardSaid : Prop := Claim7.holds Tryd.pinned (.plain (OpenSpec.upto fnAllTreeSpec)) fnAllTreeUptoCard
end Rows
end Go.Proofs.YtpbdlhemnbpkoaaDoor
