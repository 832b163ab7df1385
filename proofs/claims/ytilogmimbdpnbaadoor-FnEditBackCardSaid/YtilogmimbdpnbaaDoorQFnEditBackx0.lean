-- PRINTED by print.py (a twelfth state) out of the translation. Not trusted: Lean checks it.
import Derived.Test.YtilogmimbdpnbaaDoorProg
import Derived.Below
import Derived.Deep.Draws
import Derived.Deep.AppendLies
import Derived.Maps.AppendAt
import Derived.OwnWalk
import Derived.Laws.BytesArg
import Derived.Laws.MakeOwn
import Derived.Laws.OwnMore
import Derived.Deep.OwnRows
import Derived.Tactics
import Derived.Lib.ConvBytes
import Derived.Laws.Slices
import Derived.WalkKit
import Derived.KernelRfl
import Derived.RowKit3
import Derived.Deep.LoopGhost
import Derived.Deep.QuietTactic
import Derived.BigQuiet
import Derived.WideLaws
import Derived.Deep.DeepCutAuto
import Derived.Deep.CutBlock
import Derived.Deep.RegionHeld3
import Derived.Laws.Rows
import Derived.Lib.AppendStr
import Derived.ArgAppend
import Derived.Laws.IdiomCopy
import Derived.OrdersHeld
import Derived.Laws.BitsLemmas
import Derived.RowKit
import Derived.Test.YtilogmimbdpnbaaDoorShelf
import Derived.Test.YtilogmimbdpnbaaDoorWWords
import Derived.Test.YtilogmimbdpnbaaDoorWLast
import Derived.Test.YtilogmimbdpnbaaDoorWTab
import Derived.Test.YtilogmimbdpnbaaDoorWFour
import Derived.Test.YtilogmimbdpnbaaDoorWQPut
import Derived.Test.YtilogmimbdpnbaaDoorWApart
import Derived.Test.YtilogmimbdpnbaaDoorWArr
import Derived.Test.YtilogmimbdpnbaaDoorWZeros
import Derived.Test.YtilogmimbdpnbaaDoorWFoot
import Derived.Test.YtilogmimbdpnbaaDoorWKept
import Derived.Test.YtilogmimbdpnbaaDoorWShare
import Derived.Test.YtilogmimbdpnbaaDoorWN
import Derived.Test.YtilogmimbdpnbaaDoorWFootNe
import Derived.Test.YtilogmimbdpnbaaDoorWAt
import Derived.Test.YtilogmimbdpnbaaDoorWEqStruct
import Derived.Test.YtilogmimbdpnbaaDoorWRepsOne
import Derived.Test.YtilogmimbdpnbaaDoorWInv
import Derived.Test.YtilogmimbdpnbaaDoorWInvWords
import Derived.Test.YtilogmimbdpnbaaDoorWGuard
import Derived.Test.YtilogmimbdpnbaaDoorWNEv
import Derived.Test.YtilogmimbdpnbaaDoorWMore
namespace Go.Proofs.YtilogmimbdpnbaaDoor.PFnEditBack
open Go.RowKit Go.Proofs.YtilogmimbdpnbaaDoorW.PrintWords Go.Proofs.YtilogmimbdpnbaaDoorW.PrintLast Go.Proofs.YtilogmimbdpnbaaDoorW.PrintMore
attribute [local go_sem] max2_int min2_int max_two min_two max_three min_three max_four min_four   -- for this text's walks alone
set_option linter.unusedVariables false
set_option linter.unusedSimpArgs false



def errW : Option Int → Value
  | none => .nilIface
  | some c => .iface 0 (.int .i64 c)
theorem errW_none : errW none = .nilIface := rfl
theorem errW_some (c : Int) : errW (some c) = .iface 0 (.int .i64 c) := rfl

theorem info3 : (Tryd.prog.info? 3).map (fun i => (i.zero, i.size, i.bytes)) = some (some (.int .i64 0), 1, 8) := by kernel_rfl
theorem info5 : (Tryd.prog.info? 5).map (fun i => (i.zero, i.size, i.bytes)) = some (some (.int .u8 0), 1, 1) := by kernel_rfl
theorem info9 : (Tryd.prog.info? 9).map (fun i => (i.zero, i.size, i.bytes)) = some (some (.string ⟨#[]⟩), 1, 16) := by kernel_rfl
-- the values' own types

end Go.Proofs.YtilogmimbdpnbaaDoor.PFnEditBack
