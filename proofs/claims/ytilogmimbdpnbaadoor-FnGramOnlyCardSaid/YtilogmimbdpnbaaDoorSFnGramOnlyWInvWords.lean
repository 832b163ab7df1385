/- YtilogmimbdpnbaaDoorSFnGramOnlyWInvWords: a text of FnGramOnly's claim, out of the kit's print, cut down to what is used. -/
import Derived.Test.YtilogmimbdpnbaaDoorSFnGramOnlyWInv
import Derived.Test.YtilogmimbdpnbaaDoorSFnGramOnlyWFootNe
namespace Go.Proofs.YtilogmimbdpnbaaDoorW.PrintWords
open Go.RowKit
end Go.Proofs.YtilogmimbdpnbaaDoorW.PrintWords
namespace Go.Proofs.YtilogmimbdpnbaaDoorW.PrintLast
section
variable {ops : Array Oper} {a : Act} {o og : Oper} {g : Nat} {t : Tmp} {u : Bool}
end
end Go.Proofs.YtilogmimbdpnbaaDoorW.PrintLast

