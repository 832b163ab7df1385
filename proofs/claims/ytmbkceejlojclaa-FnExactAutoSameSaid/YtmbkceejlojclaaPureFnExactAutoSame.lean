/- FnExactAutoSame, over numbers and lists: for every two automata the law answers true. Conditions: the rows are Go's. -/
import Derived.Test.YtmbkceejlojclaaBFnExactAutoSame
namespace Go.Proofs.Ytmbkceejlojclaa.Pure
open Go.RowKit Go.Proofs.Ytmbkceejlojclaa.PFnExactAutoSame Go.Proofs.YtmbkceejlojclaaW.PrintWords Go.Proofs.YtmbkceejlojclaaW.PrintLast Go.Proofs.Ytmbkceejlojclaa.Ev Go.Proofs.Ytmbkceejlojclaa.DFnExactAutoSame

theorem FnExactAutoSame (b : Int) (es : List Bool) (gs : List (List Int)) (b' : Int) (es' : List Bool) (gs' : List (List Int)) (he : es.length ≤ 9223372036854775807) (hg : Rows2 gs) (hh : es'.length ≤ 9223372036854775807) (hg2 : Rows2 gs') : ∃ k, laws_FnExactAutoSame.f k b es gs b' es' gs' = some true := by
  refine EvP.rounds ?_
  unfold laws_FnExactAutoSame.f
  refine EvP.bind (szAuto_v b es gs he hg 1048576 (by omega) (by omega)) fun r hr => ?_
  refine EvP.ite (fun _ => EvP.now rfl) fun hn => ?_
  obtain ⟨hr0, hr1, he', hg'⟩ : 0 ≤ r ∧ r ≤ 1048576 ∧ es.length ≤ 1048576 ∧ Small2 gs := by
    rcases hr with hr | hr
    · omega
    · exact hr
  refine EvP.bind (szAuto_v b' es' gs' hh hg2 r hr0 hr1) fun s hs => ?_
  refine EvP.ite (fun _ => EvP.now rfl) fun hm => ?_
  obtain ⟨_, _, hh', hg2'⟩ : 0 ≤ s ∧ s ≤ 1048576 ∧ es'.length ≤ 1048576 ∧ Small2 gs' := by
    rcases hs with hs | hs
    · omega
    · exact hs
  refine EvP.bind (toAuto_v b es gs he' hg') fun x hx => ?_
  subst hx
  refine EvP.bind (toAuto_v b' es' gs' hh' hg2') fun x hx => ?_
  subst hx
  refine EvP.bind (specAutoSame_v b es gs b' es' gs' he' hg' hg2') fun t ht => ?_
  refine EvP.bind (toAuto_v b es gs he' hg') fun y hy => ?_
  subst hy
  refine EvP.bind (toAuto_v b' es' gs' hh' hg2') fun y hy => ?_
  subst hy
  refine EvP.bind (EvP.val (x := impl_AutoSame.f b es gs b' es' gs') (P := fun u => u = autoSame b es gs b' es' gs') rfl rfl) fun u hu => ?_
  refine EvP.no (by rw [ht, hu]; simp) ?_
  refine EvP.bind (toAuto_v b es gs he' hg') fun z hz => ?_
  subst hz
  refine EvP.bind (eqAuto_v b es gs he' hg') fun v hv => EvP.yes hv ?_
  refine EvP.bind (toAuto_v b' es' gs' hh' hg2') fun z hz => ?_
  subst hz
  exact EvP.bind (eqAuto_v b' es' gs' hh' hg2') fun v hv => EvP.yes hv (EvP.now rfl)
end Go.Proofs.Ytmbkceejlojclaa.Pure
