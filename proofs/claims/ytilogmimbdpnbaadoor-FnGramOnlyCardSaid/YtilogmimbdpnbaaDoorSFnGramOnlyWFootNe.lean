/- YtilogmimbdpnbaaDoorSFnGramOnlyWFootNe: a text of FnGramOnly's claim, out of the kit's print, cut down to what is used. -/
import Derived.Test.YtilogmimbdpnbaaDoorSFnGramOnlyWN
namespace Go.Proofs.YtilogmimbdpnbaaDoorW.PrintWords
open Go.RowKit
namespace Kd
section
variable {α : Type} {d : Kd α} {W : World} {g n : Nat} {S ok : Nat → Prop} {A : Option Addr} {ad : Addr} {xs : List α}
end
end Kd
end Go.Proofs.YtilogmimbdpnbaaDoorW.PrintWords

