/- What the engine asks of the program: its types and frames, once; the functions that are told. -/
import Derived.Test.YtiiefhpoomliaaaK4
import Derived.Test.YtiiefhpoomliaaaTA
import Derived.Test.YtiiefhpoomliaaaChecked
import Derived.Test.YtiiefhpoomliaaaXK
import Derived.KernelRfl
namespace Go.Proofs.Ytiiefhpoomliaaa.XT
open Go Go.RowKit Go.Proofs.Ytiiefhpoomliaaa.Eng Go.Proofs.Ytiiefhpoomliaaa.TA
set_option linter.unusedVariables false
set_option maxRecDepth 100000
theorem wf : WF Try.prog A := ⟨by kernel_rfl⟩
theorem marks : MarksOk Try.prog A := fun g h => by
  have h : mvT [10] g = true := h
  obtain rfl : g = 10 := by
    unfold mvT at h
    split at h
    · rename_i e; exact (Nat.eq_of_beq_eq_true e).symm
    · cases h
  exact ⟨⟨Try.f10, Try.func10, by kernel_rfl, by kernel_rfl⟩, XK.mark_calls⟩
theorem mixed : Try.prog.follows .mixedOrders = true := by kernel_rfl
theorem ext33 (vs : List V) (x : A.out 33) (h : X.call 33 vs = some x) : CallOk Try.prog A 33 vs x := by
  have h : (none : Option (A.out 33)) = some x := h
  cases h
theorem ext : ExtOk Try.prog A X := by
  intro f vs x hon h
  have hon : (Nat.beq f 33) = true := hon
  skip
  obtain rfl := Nat.eq_of_beq_eq_true hon
  exact ⟨⟨Try.f33, Try.func33, by kernel_rfl, by kernel_rfl⟩, ext33 vs x h⟩
end Go.Proofs.Ytiiefhpoomliaaa.XT
