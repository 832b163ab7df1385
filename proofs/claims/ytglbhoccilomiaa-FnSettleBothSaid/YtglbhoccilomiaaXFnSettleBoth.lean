/- What the engine asks of the program: its types and frames, once; the functions that are told. -/
import Derived.Test.YtglbhoccilomiaaK4
import Derived.Test.YtglbhoccilomiaaTA
import Derived.Test.YtglbhoccilomiaaChecked
import Derived.KernelRfl
namespace Go.Proofs.Ytglbhoccilomiaa.XT
open Go Go.RowKit Go.Proofs.Ytglbhoccilomiaa.Eng Go.Proofs.Ytglbhoccilomiaa.TA
set_option linter.unusedVariables false
set_option maxRecDepth 100000
theorem wf : WF Try.prog A := ⟨by kernel_rfl⟩
theorem mixed : Try.prog.follows .mixedOrders = true := by kernel_rfl
theorem ext : ExtOk Try.prog A X := by
  intro f vs x hon h
  have hon : false = true := hon
  cases hon
end Go.Proofs.Ytglbhoccilomiaa.XT
