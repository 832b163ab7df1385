/-
  DERIVED. GIVEN WITH THE SEED: THE CARDS: each row of YtcgafajbabejpaaDoorRows.lean that lists a variable, with what it lists TIED to the program's text (the seventh form; the later family's looks); each row that meets fmt, with fmt's text TOLD by the authors' own Lean function (tested against real Go, not proved from fmt's source: count such statements apart). THE CARD IS WHAT COUNTS. Prove the row's statement (the work); the ties are given (YtcgafajbabejpaaDoorTie.lean); close each card by the builder's one call (the guide's Derived/Test/ToyasCard.lean, 'card_holds'). Laid BY PROGRAM, IN A SANDBOX (cutbox-door.mjs). By AI agents, Wed Nov 11 2026. No macro, syntax, notation, axiom, sorry.
-/
import Derived.Test.YtcgafajbabejpaaDoorRows
import GoSem.ClaimSeven
namespace Go.Proofs.YtcgafajbabejpaaDoor
namespace Rows

/-- THE TIED CARD OF 'laws.FnTableSame'. -/
def fnTableSameCard : Claim7 := { stood := { row := fnTableSameRow, standIns := [], harness := (true, "88072405fad961d1df319d1b703c0ca2e71a29e3160089f126d4e387a503c3df"), looks := false }, kinds := [], alts := [], laidByText := true, laidKinds := [.data, .pinned], laidTests := true, laidLooks := .later }
def FnTableSameCardSaid : Prop := Claim7.holds Tryd.pinned (.plain (OpenSpec.ofChange fnTableSameSpec)) fnTableSameCard

/-- THE SECOND FORM's CARD OF 'laws.FnTableSame'. -/
def fnTableSameUptoCard : Claim7 := { stood := { row := fnTableSameUptoRow, standIns := [], harness := (true, "88072405fad961d1df319d1b703c0ca2e71a29e3160089f126d4e387a503c3df"), looks := false }, kinds := [], alts := [], laidByText := true, laidKinds := [.data, .pinned], laidTests := true, laidLooks := .later }
def FnTableSameUptoCardSaid : Prop := Claim7.holds Tryd.pinned (.plain (OpenSpec.upto fnTableSameSpec)) fnTableSameUptoCard
end Rows
end Go.Proofs.YtcgafajbabejpaaDoor
