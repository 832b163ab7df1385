/- YtilogmimbdpnbaaDoorSFnGramOnlyWFour: a text of FnGramOnly's claim, out of the kit's print, cut down to what is used. -/
import Derived.Test.YtilogmimbdpnbaaDoorSFnGramOnlyWTab
namespace Go.Proofs.YtilogmimbdpnbaaDoorW.PrintLast
section
variable {P : Program} {ops : Array Oper} {Q : Exit → Act → World → Prop} {md : Region.Mode} {S : World → Prop} {ds : List Nat} {T : Bool × List (List Nat × List Nat)}
end
end Go.Proofs.YtilogmimbdpnbaaDoorW.PrintLast

