/- YtmbkceejlojclaaSFnGramSameWInvWords: a text of FnGramSame's claim, out of the kit's print, cut down to what is used. -/
import Derived.Test.YtmbkceejlojclaaSFnGramSameWInv
import Derived.Test.YtmbkceejlojclaaSFnGramSameWFootNe
namespace Go.Proofs.YtmbkceejlojclaaW.PrintWords
open Go.RowKit
end Go.Proofs.YtmbkceejlojclaaW.PrintWords
namespace Go.Proofs.YtmbkceejlojclaaW.PrintLast
section
variable {ops : Array Oper} {a : Act} {o og : Oper} {g : Nat} {t : Tmp} {u : Bool}
end
end Go.Proofs.YtmbkceejlojclaaW.PrintLast

