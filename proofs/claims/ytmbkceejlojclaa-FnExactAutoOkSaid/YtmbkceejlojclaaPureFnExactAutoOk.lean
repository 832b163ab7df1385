/- FnExactAutoOk, over numbers and lists: for every automaton the law answers true. Conditions: the rows are Go's. -/
import Derived.Test.YtmbkceejlojclaaBFnExactAutoOk
namespace Go.Proofs.Ytmbkceejlojclaa.Pure
open Go.RowKit Go.Proofs.Ytmbkceejlojclaa.PFnExactAutoOk Go.Proofs.YtmbkceejlojclaaW.PrintWords Go.Proofs.YtmbkceejlojclaaW.PrintLast Go.Proofs.Ytmbkceejlojclaa.Ev Go.Proofs.Ytmbkceejlojclaa.DFnExactAutoOk

theorem FnExactAutoOk (b : Int) (es : List Bool) (gs : List (List Int)) (he : es.length ≤ 9223372036854775807) (hg : Rows2 gs) : ∃ k, laws_FnExactAutoOk.f k b es gs = some true := by
  refine EvP.rounds ?_
  unfold laws_FnExactAutoOk.f
  refine EvP.bind (szAuto_v b es gs he hg 1048576 (by omega) (by omega)) fun r hr => ?_
  refine EvP.ite (fun _ => EvP.now rfl) fun hn => ?_
  obtain ⟨_, _, he', hg'⟩ : 0 ≤ r ∧ r ≤ 1048576 ∧ es.length ≤ 1048576 ∧ Small2 gs := by
    rcases hr with hr | hr
    · omega
    · exact hr
  refine EvP.bind (toAuto_v b es gs he' hg') fun x hx => ?_
  subst hx
  refine EvP.bind (specAutoOk_v b es gs) fun t ht => ?_
  refine EvP.bind (toAuto_v b es gs he' hg') fun y hy => ?_
  subst hy
  refine EvP.bind (EvP.val (x := impl_AutoOk.f b es gs) (P := fun u => u = autoOk b es gs) rfl rfl) fun u hu => ?_
  refine EvP.no (by rw [ht, hu]; simp) ?_
  refine EvP.bind (toAuto_v b es gs he' hg') fun z hz => ?_
  subst hz
  exact EvP.bind (eqAuto_v b es gs he' hg') fun v hv => EvP.yes hv (EvP.now rfl)
end Go.Proofs.Ytmbkceejlojclaa.Pure
