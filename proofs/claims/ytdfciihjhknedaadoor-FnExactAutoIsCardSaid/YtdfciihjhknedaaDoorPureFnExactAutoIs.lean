/- FnExactAutoIs, over numbers and lists: for every automaton and every text the law answers true. Conditions: the rows are Go's. -/
import Derived.Test.YtdfciihjhknedaaDoorUFnExactAutoIs
namespace Go.Proofs.YtdfciihjhknedaaDoor.Pure
open Go.RowKit Go.Proofs.YtdfciihjhknedaaDoor.PFnExactAutoIs Go.Proofs.YtdfciihjhknedaaDoorW.PrintWords Go.Proofs.YtdfciihjhknedaaDoorW.PrintLast Go.Proofs.YtdfciihjhknedaaDoor.Ev Go.Proofs.YtdfciihjhknedaaDoor.DFnExactAutoIs

theorem FnExactAutoIs (b : Int) (es : List Bool) (gs : List (List Int)) (t : ByteArray) (he : es.length ≤ 9223372036854775807) (hg : Rows2 gs) : ∃ k, laws_FnExactAutoIs.f k b es gs t = some true := by
  refine EvP.rounds ?_
  unfold laws_FnExactAutoIs.f
  refine EvP.ite (fun _ => EvP.now rfl) fun htn => ?_
  have ht : t.size ≤ 1048576 := by omega
  refine EvP.bind (szAuto_v b es gs he hg 1048576 (by omega) (by omega)) fun r hr => ?_
  refine EvP.ite (fun _ => EvP.now rfl) fun hn => ?_
  obtain ⟨_, _, he', hg'⟩ : 0 ≤ r ∧ r ≤ 1048576 ∧ es.length ≤ 1048576 ∧ Small2 gs := by
    rcases hr with hr | hr
    · omega
    · exact hr
  refine EvP.bind (toAuto_v b es gs he' hg') fun x hx => ?_
  subst hx
  refine EvP.bind (specIs_v b es gs t ht) fun u hu => ?_
  refine EvP.bind (toAuto_v b es gs he' hg') fun y hy => ?_
  subst hy
  refine EvP.bind (implIs_v b es gs t ht) fun v hv => ?_
  refine EvP.no (by rw [hu, hv]; simp) ?_
  refine EvP.bind (toAuto_v b es gs he' hg') fun z hz => ?_
  subst hz
  exact EvP.bind (eqAuto_v b es gs he' hg') fun v hv => EvP.yes hv (EvP.now rfl)
end Go.Proofs.YtdfciihjhknedaaDoor.Pure
