/-
  No cell of these rows narrows 'for every input' (looked for: loops, veiled, ifaces, maps, wideKeys, modest, calm, conditions, laid).
  DERIVED. THE GIVEN ROWS OF THIS SEAT. 4 by the template 'for every input the law returns true; each argument reads behind the call as it read before'; 0 by the template 'total and deterministic' (their statements: YtglbhoccilomiaaTotals.lean).
  GIVEN WITH THE SEED: the statements are not yours to turn. If you find one false, say at which input.
  Laid BY PROGRAM, IN A SANDBOX (cutbox-rows.mjs): the forced cells as the released guide's own fill.sh prints them over the translation abcb1f0e598cfc2e… (all of the seat's roots in one cut). By AI agents, Wed Nov 11 2026. No macro, syntax, notation, axiom, sorry.
-/
import Derived.Test.YtglbhoccilomiaaChecked
import GoSem.Claim
import GoSem.ClaimJoined
import GoSem.ClaimMapViews
import Derived.JoinedTies
import Derived.KernelRfl
namespace Go.Proofs.Ytglbhoccilomiaa
/- THE CELL 'sum', in the pinned program and in every row, IS THE sha256 OF THE DUMP (.gsa) THAT YtglbhoccilomiaaProg.lean LOADS. Nothing in Lean hashes anything: it is a label: what it is worth is what the hold of that sum in a sandbox is worth. -/
noncomputable def Try.pinned : Pinned := { name := "ytglbhoccilomiaa", sum := "abcb1f0e598cfc2e9ea42014bd157078fe5f03c56c2b863320b3d480025418b4", checked := Try.checked }
namespace Rows
def none {H : Type} : Left H := { results := [], args := [] }

/-- 'laws.FnTableGo': WHATEVER THE INPUT: true; the input reads as it did. -/
def fnTableGoSpec : ChangeSpec := { name := "fnTableGo", fn := fun _ => fun
  | [d] => { results := [.lit (.bool true)], args := [d] }
  | _ => none }
def fnTableGoRow : OpenClaim := { program := "ytglbhoccilomiaa", sum := "abcb1f0e598cfc2e9ea42014bd157078fe5f03c56c2b863320b3d480025418b4", func := "loop.example/construer/laws.FnTableGo", spec := "fnTableGo", unfollowed := true, recurses := true, plainKeys := false, apart := false }
def FnTableGoSaid : Prop := fnTableGoRow.holds Try.pinned (OpenSpec.ofChange fnTableGoSpec)

/-- ITS FALSE NEIGHBOUR: 'it returns false'. Refute it at one input. -/
def fnTableGoWrong : ChangeSpec := { name := "fnTableGo", fn := fun _ => fun
  | [d] => { results := [.lit (.bool false)], args := [d] }
  | _ => none }
def FnTableGoWrongFalsely : Prop := fnTableGoRow.holds Try.pinned (OpenSpec.ofChange fnTableGoWrong)

/-- 'laws.FnTableClash': WHATEVER THE INPUT: true; the input reads as it did. -/
def fnTableClashSpec : ChangeSpec := { name := "fnTableClash", fn := fun _ => fun
  | [d] => { results := [.lit (.bool true)], args := [d] }
  | _ => none }
def fnTableClashRow : OpenClaim := { program := "ytglbhoccilomiaa", sum := "abcb1f0e598cfc2e9ea42014bd157078fe5f03c56c2b863320b3d480025418b4", func := "loop.example/construer/laws.FnTableClash", spec := "fnTableClash", unfollowed := true, recurses := true, plainKeys := false, apart := false }
def FnTableClashSaid : Prop := fnTableClashRow.holds Try.pinned (OpenSpec.ofChange fnTableClashSpec)

/-- ITS FALSE NEIGHBOUR: 'it returns false'. Refute it at one input. -/
def fnTableClashWrong : ChangeSpec := { name := "fnTableClash", fn := fun _ => fun
  | [d] => { results := [.lit (.bool false)], args := [d] }
  | _ => none }
def FnTableClashWrongFalsely : Prop := fnTableClashRow.holds Try.pinned (OpenSpec.ofChange fnTableClashWrong)

/-- 'laws.FnSettleBoth': WHATEVER THE INPUT: true; the input reads as it did. -/
def fnSettleBothSpec : ChangeSpec := { name := "fnSettleBoth", fn := fun _ => fun
  | [d] => { results := [.lit (.bool true)], args := [d] }
  | _ => none }
def fnSettleBothRow : OpenClaim := { program := "ytglbhoccilomiaa", sum := "abcb1f0e598cfc2e9ea42014bd157078fe5f03c56c2b863320b3d480025418b4", func := "loop.example/construer/laws.FnSettleBoth", spec := "fnSettleBoth", plainKeys := false, apart := false }
def FnSettleBothSaid : Prop := fnSettleBothRow.holds Try.pinned (OpenSpec.ofChange fnSettleBothSpec)

/-- ITS FALSE NEIGHBOUR: 'it returns false'. Refute it at one input. -/
def fnSettleBothWrong : ChangeSpec := { name := "fnSettleBoth", fn := fun _ => fun
  | [d] => { results := [.lit (.bool false)], args := [d] }
  | _ => none }
def FnSettleBothWrongFalsely : Prop := fnSettleBothRow.holds Try.pinned (OpenSpec.ofChange fnSettleBothWrong)

/-- 'laws.FnTableSettle': WHATEVER THE INPUT: true; the input reads as it did. -/
def fnTableSettleSpec : ChangeSpec := { name := "fnTableSettle", fn := fun _ => fun
  | [d] => { results := [.lit (.bool true)], args := [d] }
  | _ => none }
def fnTableSettleRow : OpenClaim := { program := "ytglbhoccilomiaa", sum := "abcb1f0e598cfc2e9ea42014bd157078fe5f03c56c2b863320b3d480025418b4", func := "loop.example/construer/laws.FnTableSettle", spec := "fnTableSettle", plainKeys := false, apart := false }
def FnTableSettleSaid : Prop := fnTableSettleRow.holds Try.pinned (OpenSpec.ofChange fnTableSettleSpec)

/-- ITS FALSE NEIGHBOUR: 'it returns false'. Refute it at one input. -/
def fnTableSettleWrong : ChangeSpec := { name := "fnTableSettle", fn := fun _ => fun
  | [d] => { results := [.lit (.bool false)], args := [d] }
  | _ => none }
def FnTableSettleWrongFalsely : Prop := fnTableSettleRow.holds Try.pinned (OpenSpec.ofChange fnTableSettleWrong)

/- THE SECOND FORM. 'bulk': how many values and letters a reading holds, each counted each time it is reached (what is shared counts as often as it is met; a slice's spare places count too). A statement '..UptoSaid' is the law's where the arguments, and the package variables that the reading takes, are together of bulk at most 1048576: NARROWER than '..Said'. Prove '..Said' where nothing that the law and all that it calls make is longer than what came in: it says more and counts as full. Else prove '..UptoSaid'. A law counts once. -/
mutual
def uptoBulk {H : Type} : DataW H → Nat
  | .lit (.string bytes) => bytes.length + 1
  | .lit _ => 1
  | .nil => 1
  | .ptr d => uptoBulk d + 1
  | .slice elems spare => uptoBulkAll elems + uptoBulkAll spare + 1
  | .agg parts => uptoBulkAll parts + 1
  | .iface _ d => uptoBulk d + 1
  | .map entries => uptoBulkEntries entries + 1
  | .held _ => 1
def uptoBulkAll {H : Type} : List (DataW H) → Nat
  | [] => 0
  | d :: r => uptoBulk d + uptoBulkAll r
def uptoBulkEntries {H : Type} : List (Lit × DataW H) → Nat
  | [] => 0
  | x :: r => uptoBulkEntry x + uptoBulkEntries r
def uptoBulkEntry {H : Type} : Lit × DataW H → Nat
  | (.string bytes, d) => bytes.length + uptoBulk d + 1
  | (_, d) => uptoBulk d + 1
 end
def uptoSmall : (H : Type) → List (DataW H) → Bool := fun _ ds => decide (uptoBulkAll ds ≤ 1048576)
def OpenSpec.upto (s : _root_.Go.ChangeSpec) : _root_.Go.OpenSpec := { _root_.Go.OpenSpec.ofChange s with cond := some uptoSmall }

/-- 'laws.FnTableGo', WHERE WHAT IT READS IS OF BULK AT MOST 1048576: true; the input reads as it did. -/
def fnTableGoUptoRow : OpenClaim := { program := "ytglbhoccilomiaa", sum := "abcb1f0e598cfc2e9ea42014bd157078fe5f03c56c2b863320b3d480025418b4", func := "loop.example/construer/laws.FnTableGo", spec := "fnTableGo", unfollowed := true, recurses := true, plainKeys := false, apart := false, narrowed := true }
def FnTableGoUptoSaid : Prop := fnTableGoUptoRow.holds Try.pinned (OpenSpec.upto fnTableGoSpec)

/-- 'laws.FnTableClash', WHERE WHAT IT READS IS OF BULK AT MOST 1048576: true; the input reads as it did. -/
def fnTableClashUptoRow : OpenClaim := { program := "ytglbhoccilomiaa", sum := "abcb1f0e598cfc2e9ea42014bd157078fe5f03c56c2b863320b3d480025418b4", func := "loop.example/construer/laws.FnTableClash", spec := "fnTableClash", unfollowed := true, recurses := true, plainKeys := false, apart := false, narrowed := true }
def FnTableClashUptoSaid : Prop := fnTableClashUptoRow.holds Try.pinned (OpenSpec.upto fnTableClashSpec)

/-- 'laws.FnSettleBoth', WHERE WHAT IT READS IS OF BULK AT MOST 1048576: true; the input reads as it did. -/
def fnSettleBothUptoRow : OpenClaim := { program := "ytglbhoccilomiaa", sum := "abcb1f0e598cfc2e9ea42014bd157078fe5f03c56c2b863320b3d480025418b4", func := "loop.example/construer/laws.FnSettleBoth", spec := "fnSettleBoth", plainKeys := false, apart := false, narrowed := true }
def FnSettleBothUptoSaid : Prop := fnSettleBothUptoRow.holds Try.pinned (OpenSpec.upto fnSettleBothSpec)

/-- 'laws.FnTableSettle', WHERE WHAT IT READS IS OF BULK AT MOST 1048576: true; the input reads as it did. -/
def fnTableSettleUptoRow : OpenClaim := { program := "ytglbhoccilomiaa", sum := "abcb1f0e598cfc2e9ea42014bd157078fe5f03c56c2b863320b3d480025418b4", func := "loop.example/construer/laws.FnTableSettle", spec := "fnTableSettle", plainKeys := false, apart := false, narrowed := true }
def FnTableSettleUptoSaid : Prop := fnTableSettleUptoRow.holds Try.pinned (OpenSpec.upto fnTableSettleSpec)

end Rows
end Go.Proofs.Ytglbhoccilomiaa
