/-
  DERIVED. GIVEN WITH THE SEED: THE CARDS: each row of YtmonmbjjobcnaaaDoorRows.lean that lists a variable, with what it lists TIED to the program's text (the seventh form; the later family's looks); each row that meets fmt, with fmt's text TOLD by the authors' own Lean function (tested against real Go, not proved from fmt's source: count such statements apart). THE CARD IS WHAT COUNTS. Prove the row's statement (the work); the ties are given (YtmonmbjjobcnaaaDoorTie.lean); close each card by the builder's one call (the guide's Derived/Test/ToyasCard.lean, 'card_holds'). Laid BY PROGRAM, IN A SANDBOX (cutbox-door.mjs). By AI agents, Wed Nov 11 2026. No macro, syntax, notation, axiom, sorry.
-/
import Derived.Test.YtmonmbjjobcnaaaDoorRows
import GoSem.ClaimSeven
namespace Go.Proofs.YtmonmbjjobcnaaaDoor
namespace Rows

/-- THE TIED CARD OF 'laws.FnAutoNot'. -/
def fnAutoNotCard : Claim7 := { stood := { row := fnAutoNotRow, standIns := [], harness := (true, "0e86a130a061ee11f0affc9ddb83fee14b9a965b6afcd13fd5c765652e31ef8d"), looks := false }, kinds := [], alts := [], laidByText := true, laidKinds := [.data, .pinned], laidTests := true, laidLooks := .later }
def FnAutoNotCardSaid : Prop := Claim7.holds Tryd.pinned (.plain (OpenSpec.ofChange fnAutoNotSpec)) fnAutoNotCard

/-- THE TIED CARD OF 'laws.FnAutoOf'. -/
def fnAutoOfCard : Claim7 := { stood := { row := fnAutoOfRow, standIns := [], harness := (true, "0e86a130a061ee11f0affc9ddb83fee14b9a965b6afcd13fd5c765652e31ef8d"), looks := false }, kinds := [], alts := [], laidByText := true, laidKinds := [.data, .pinned], laidTests := true, laidLooks := .later }
def FnAutoOfCardSaid : Prop := Claim7.holds Tryd.pinned (.plain (OpenSpec.ofChange fnAutoOfSpec)) fnAutoOfCard

/-- THE TIED CARD OF 'laws.FnAutoOwn'. -/
def fnAutoOwnCard : Claim7 := { stood := { row := fnAutoOwnRow, standIns := [], harness := (true, "0e86a130a061ee11f0affc9ddb83fee14b9a965b6afcd13fd5c765652e31ef8d"), looks := false }, kinds := [], alts := [], laidByText := true, laidKinds := [.data, .pinned], laidTests := true, laidLooks := .later }
def FnAutoOwnCardSaid : Prop := Claim7.holds Tryd.pinned (.plain (OpenSpec.ofChange fnAutoOwnSpec)) fnAutoOwnCard

/-- THE TIED CARD OF 'laws.FnMeetBoth'. -/
def fnMeetBothCard : Claim7 := { stood := { row := fnMeetBothRow, standIns := [], harness := (true, "0e86a130a061ee11f0affc9ddb83fee14b9a965b6afcd13fd5c765652e31ef8d"), looks := false }, kinds := [], alts := [], laidByText := true, laidKinds := [.data, .pinned], laidTests := true, laidLooks := .later }
def FnMeetBothCardSaid : Prop := Claim7.holds Tryd.pinned (.plain (OpenSpec.ofChange fnMeetBothSpec)) fnMeetBothCard

/-- THE TIED CARD OF 'laws.FnMeetOf'. -/
def fnMeetOfCard : Claim7 := { stood := { row := fnMeetOfRow, standIns := [], harness := (true, "0e86a130a061ee11f0affc9ddb83fee14b9a965b6afcd13fd5c765652e31ef8d"), looks := false }, kinds := [], alts := [], laidByText := true, laidKinds := [.data, .pinned], laidTests := true, laidLooks := .later }
def FnMeetOfCardSaid : Prop := Claim7.holds Tryd.pinned (.plain (OpenSpec.ofChange fnMeetOfSpec)) fnMeetOfCard

/-- THE TIED CARD OF 'laws.FnExactAutoOf'. -/
def fnExactAutoOfCard : Claim7 := { stood := { row := fnExactAutoOfRow, standIns := [], harness := (true, "0e86a130a061ee11f0affc9ddb83fee14b9a965b6afcd13fd5c765652e31ef8d"), looks := false }, kinds := [], alts := [], laidByText := true, laidKinds := [.data, .pinned], laidTests := true, laidLooks := .later }
def FnExactAutoOfCardSaid : Prop := Claim7.holds Tryd.pinned (.plain (OpenSpec.ofChange fnExactAutoOfSpec)) fnExactAutoOfCard

/-- THE SECOND FORM's CARD OF 'laws.FnAutoNot'. -/
def fnAutoNotUptoCard : Claim7 := { stood := { row := fnAutoNotUptoRow, standIns := [], harness := (true, "0e86a130a061ee11f0affc9ddb83fee14b9a965b6afcd13fd5c765652e31ef8d"), looks := false }, kinds := [], alts := [], laidByText := true, laidKinds := [.data, .pinned], laidTests := true, laidLooks := .later }
def FnAutoNotUptoCardSaid : Prop := Claim7.holds Tryd.pinned (.plain (OpenSpec.upto fnAutoNotSpec)) fnAutoNotUptoCard

/-- THE SECOND FORM's CARD OF 'laws.FnAutoOf'. -/
def fnAutoOfUptoCard : Claim7 := { stood := { row := fnAutoOfUptoRow, standIns := [], harness := (true, "0e86a130a061ee11f0affc9ddb83fee14b9a965b6afcd13fd5c765652e31ef8d"), looks := false }, kinds := [], alts := [], laidByText := true, laidKinds := [.data, .pinned], laidTests := true, laidLooks := .later }
def FnAutoOfUptoCardSaid : Prop := Claim7.holds Tryd.pinned (.plain (OpenSpec.upto fnAutoOfSpec)) fnAutoOfUptoCard

/-- THE SECOND FORM's CARD OF 'laws.FnAutoOwn'. -/
def fnAutoOwnUptoCard : Claim7 := { stood := { row := fnAutoOwnUptoRow, standIns := [], harness := (true, "0e86a130a061ee11f0affc9ddb83fee14b9a965b6afcd13fd5c765652e31ef8d"), looks := false }, kinds := [], alts := [], laidByText := true, laidKinds := [.data, .pinned], laidTests := true, laidLooks := .later }
def FnAutoOwnUptoCardSaid : Prop := Claim7.holds Tryd.pinned (.plain (OpenSpec.upto fnAutoOwnSpec)) fnAutoOwnUptoCard

/-- THE SECOND FORM's CARD OF 'laws.FnMeetBoth'. -/
def fnMeetBothUptoCard : Claim7 := { stood := { row := fnMeetBothUptoRow, standIns := [], harness := (true, "0e86a130a061ee11f0affc9ddb83fee14b9a965b6afcd13fd5c765652e31ef8d"), looks := false }, kinds := [], alts := [], laidByText := true, laidKinds := [.data, .pinned], laidTests := true, laidLooks := .later }
def FnMeetBothUptoCardSaid : Prop := Claim7.holds Tryd.pinned (.plain (OpenSpec.upto fnMeetBothSpec)) fnMeetBothUptoCard

/-- THE SECOND FORM's CARD OF 'laws.FnMeetOf'. -/
def fnMeetOfUptoCard : Claim7 := { stood := { row := fnMeetOfUptoRow, standIns := [], harness := (true, "0e86a130a061ee11f0affc9ddb83fee14b9a965b6afcd13fd5c765652e31ef8d"), looks := false }, kinds := [], alts := [], laidByText := true, laidKinds := [.data, .pinned], laidTests := true, laidLooks := .later }
def FnMeetOfUptoCardSaid : Prop := Claim7.holds Tryd.pinned (.plain (OpenSpec.upto fnMeetOfSpec)) fnMeetOfUptoCard

/-- THE SECOND FORM's CARD OF 'laws.FnExactAutoOf'. -/
def fnExactAutoOfUptoCard : Claim7 := { stood := { row := fnExactAutoOfUptoRow, standIns := [], harness := (true, "0e86a130a061ee11f0affc9ddb83fee14b9a965b6afcd13fd5c765652e31ef8d"), looks := false }, kinds := [], alts := [], laidByText := true, laidKinds := [.data, .pinned], laidTests := true, laidLooks := .later }
def FnExactAutoOfUptoCardSaid : Prop := Claim7.holds Tryd.pinned (.plain (OpenSpec.upto fnExactAutoOfSpec)) fnExactAutoOfUptoCard
end Rows
end Go.Proofs.YtmonmbjjobcnaaaDoor
