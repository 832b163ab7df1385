/-
  DERIVED. GIVEN WITH THE SEED: THE CARDS: each row of YtiiefhpoomliaaaDoorRows.lean that lists a variable, with what it lists TIED to the program's text (the seventh form; the later family's looks); each row that meets fmt, with fmt's text TOLD by the authors' own Lean function (tested against real Go, not proved from fmt's source: count such statements apart). THE CARD IS WHAT COUNTS. Prove the row's statement (the work); the ties are given (YtiiefhpoomliaaaDoorTie.lean); close each card by the builder's one call (the guide's Derived/Test/ToyasCard.lean, 'card_holds'). Laid BY PROGRAM, IN A SANDBOX (cutbox-door.mjs). By AI agents, Wed Nov 11 2026. No macro, syntax, notation, axiom, sorry.
-/
import Derived.Test.YtiiefhpoomliaaaDoorRows
import GoSem.ClaimSeven
namespace Go.Proofs.YtiiefhpoomliaaaDoor
namespace Rows

/-- THE TIED CARD OF 'laws.FnExactAutoOf'. -/
def fnExactAutoOfCard : Claim7 := { stood := { row := fnExactAutoOfRow, standIns := [], harness := (true, "753de461adc7a99cf657f498d11ddc361c3941a7c2a4a5b4063b410a115c4ae3"), looks := false }, kinds := [], alts := [], laidByText := true, laidKinds := [.data, .pinned], laidTests := true, laidLooks := .later }
def FnExactAutoOfCardSaid : Prop := Claim7.holds Tryd.pinned (.plain (OpenSpec.ofChange fnExactAutoOfSpec)) fnExactAutoOfCard

/-- THE SECOND FORM's CARD OF 'laws.FnExactAutoOf'. -/
def fnExactAutoOfUptoCard : Claim7 := { stood := { row := fnExactAutoOfUptoRow, standIns := [], harness := (true, "753de461adc7a99cf657f498d11ddc361c3941a7c2a4a5b4063b410a115c4ae3"), looks := false }, kinds := [], alts := [], laidByText := true, laidKinds := [.data, .pinned], laidTests := true, laidLooks := .later }
def FnExactAutoOfUptoCardSaid : Prop := Claim7.holds Tryd.pinned (.plain (OpenSpec.upto fnExactAutoOfSpec)) fnExactAutoOfUptoCard
end Rows
end Go.Proofs.YtiiefhpoomliaaaDoor
