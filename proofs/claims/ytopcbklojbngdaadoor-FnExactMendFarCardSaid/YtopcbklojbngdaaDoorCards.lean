/-
  DERIVED. GIVEN WITH THE SEED: THE CARDS: each row of YtopcbklojbngdaaDoorRows.lean that lists a variable, with what it lists TIED to the program's text (the seventh form; the later family's looks); each row that meets fmt, with fmt's text TOLD by the authors' own Lean function (tested against real Go, not proved from fmt's source: count such statements apart). THE CARD IS WHAT COUNTS. Prove the row's statement (the work); the ties are given (YtopcbklojbngdaaDoorTie.lean); close each card by the builder's one call (the guide's Derived/Test/ToyasCard.lean, 'card_holds'). Laid BY PROGRAM, IN A SANDBOX (cutbox-door.mjs). By AI agents, Wed Nov 11 2026. No macro, syntax, notation, axiom, sorry.
-/
import Derived.Test.YtopcbklojbngdaaDoorRows
import GoSem.ClaimSeven
namespace Go.Proofs.YtopcbklojbngdaaDoor
namespace Rows

/-- THE TIED CARD OF 'laws.FnMendMore'. -/
def fnMendMoreCard : Claim7 := { stood := { row := fnMendMoreRow, standIns := [], harness := (true, "066e69c63ec532564abb4c7a32ee9933c4aac532ea39fd4d2fdc8b709a84436b"), looks := false }, kinds := [], alts := [], laidByText := true, laidKinds := [.data, .pinned], laidTests := true, laidLooks := .later }
def FnMendMoreCardSaid : Prop := Claim7.holds Tryd.pinned (.plain (OpenSpec.ofChange fnMendMoreSpec)) fnMendMoreCard

/-- THE TIED CARD OF 'laws.FnTurnMend'. -/
def fnTurnMendCard : Claim7 := { stood := { row := fnTurnMendRow, standIns := [], harness := (true, "066e69c63ec532564abb4c7a32ee9933c4aac532ea39fd4d2fdc8b709a84436b"), looks := false }, kinds := [], alts := [], laidByText := true, laidKinds := [.data, .pinned], laidTests := true, laidLooks := .later }
def FnTurnMendCardSaid : Prop := Claim7.holds Tryd.pinned (.plain (OpenSpec.ofChange fnTurnMendSpec)) fnTurnMendCard

/-- THE TIED CARD OF 'laws.FnExactMendFar'. -/
def fnExactMendFarCard : Claim7 := { stood := { row := fnExactMendFarRow, standIns := [], harness := (true, "066e69c63ec532564abb4c7a32ee9933c4aac532ea39fd4d2fdc8b709a84436b"), looks := false }, kinds := [], alts := [], laidByText := true, laidKinds := [.data, .pinned], laidTests := true, laidLooks := .later }
def FnExactMendFarCardSaid : Prop := Claim7.holds Tryd.pinned (.plain (OpenSpec.ofChange fnExactMendFarSpec)) fnExactMendFarCard

/-- THE SECOND FORM's CARD OF 'laws.FnMendMore'. -/
def fnMendMoreUptoCard : Claim7 := { stood := { row := fnMendMoreUptoRow, standIns := [], harness := (true, "066e69c63ec532564abb4c7a32ee9933c4aac532ea39fd4d2fdc8b709a84436b"), looks := false }, kinds := [], alts := [], laidByText := true, laidKinds := [.data, .pinned], laidTests := true, laidLooks := .later }
def FnMendMoreUptoCardSaid : Prop := Claim7.holds Tryd.pinned (.plain (OpenSpec.upto fnMendMoreSpec)) fnMendMoreUptoCard

/-- THE SECOND FORM's CARD OF 'laws.FnTurnMend'. -/
def fnTurnMendUptoCard : Claim7 := { stood := { row := fnTurnMendUptoRow, standIns := [], harness := (true, "066e69c63ec532564abb4c7a32ee9933c4aac532ea39fd4d2fdc8b709a84436b"), looks := false }, kinds := [], alts := [], laidByText := true, laidKinds := [.data, .pinned], laidTests := true, laidLooks := .later }
def FnTurnMendUptoCardSaid : Prop := Claim7.holds Tryd.pinned (.plain (OpenSpec.upto fnTurnMendSpec)) fnTurnMendUptoCard

/-- THE SECOND FORM's CARD OF 'laws.FnExactMendFar'. -/
def fnExactMendFarUptoCard : Claim7 := { stood := { row := fnExactMendFarUptoRow, standIns := [], harness := (true, "066e69c63ec532564abb4c7a32ee9933c4aac532ea39fd4d2fdc8b709a84436b"), looks := false }, kinds := [], alts := [], laidByText := true, laidKinds := [.data, .pinned], laidTests := true, laidLooks := .later }
def FnExactMendFarUptoCardSaid : Prop := Claim7.holds Tryd.pinned (.plain (OpenSpec.upto fnExactMendFarSpec)) fnExactMendFarUptoCard
end Rows
end Go.Proofs.YtopcbklojbngdaaDoor
