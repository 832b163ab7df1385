/- YtilogmimbdpnbaaDoorSFnGramMoreOFnGramMore: a text of FnGramMore's claim, out of the kit's print, cut down to what is used. -/
import Derived.Test.YtilogmimbdpnbaaDoorSFnGramMoreKFnGramMore
namespace Go.Proofs.YtilogmimbdpnbaaDoor.DFnGramMore
open Go.RowKit Go.Proofs.YtilogmimbdpnbaaDoor.PFnGramMore Go.Proofs.YtilogmimbdpnbaaDoorW.PrintWords Go.Proofs.YtilogmimbdpnbaaDoorW.PrintLast Go.Proofs.YtilogmimbdpnbaaDoor.Ev
set_option linter.unusedVariables false
set_option linter.unusedSimpArgs false
def forL (l : List S42) (s : ByteArray) : Nat → Nat → List Int
  | 0, _ => []
  | d + 1, i => if (rd_T42 l (i : Int)).f0.toList = s.toList then (i : Int) :: forL l s d (i + 1) else forL l s d (i + 1)
theorem forL_len (l : List S42) (s : ByteArray) (d : Nat) : ∀ i, (forL l s d i).length ≤ d := by
  induction d with
  | zero => intro i; exact Nat.le_refl _
  | succ d ih =>
    intro i
    have := ih (i + 1)
    simp only [forL]
    split
    · simp; omega
    · omega
theorem rulesFor_l0 (l : List S42) (hl : l.length ≤ 1000) (s : ByteArray) (d : Nat) : ∀ (i : Nat) (acc : List Int), i + d = l.length → acc.length ≤ i →
    EvP (fun k => impl_rulesFor.l0 k s acc l (l.length : Int) (i : Int)) (fun r => r = acc ++ forL l s d i) := by
  induction d with
  | zero =>
    intro i acc hd ha
    refine EvP.step ?_
    simp only [impl_rulesFor.l0]
    exact EvP.no (by omega) (EvP.now (by simp [forL]))
  | succ d ih =>
    intro i acc hd ha
    refine EvP.step ?_
    simp only [impl_rulesFor.l0]
    refine EvP.yes (by omega) (EvP.yes (by omega) (EvP.yes (by omega) ?_))
    rw [w64 (x := (i : Int) + 1) (by omega) (by omega)]
    refine EvP.ite (fun h => EvP.yes (by omega) ?_) fun h => ?_
    · refine (ih (i + 1) _ (by omega) (by simp; omega)).mono fun r hr => ?_
      rw [hr]
      simp [forL, h]
    · refine (ih (i + 1) _ (by omega) (by omega)).mono fun r hr => ?_
      rw [hr]
      simp [forL, h]
theorem rulesFor_v (st : ByteArray) (l : List S42) (hl : l.length ≤ 1000) (s : ByteArray) : EvP (fun k => impl_rulesFor.f k st l s) (fun r => r = forL l s l.length 0) := by
  unfold impl_rulesFor.f
  exact (rulesFor_l0 l hl s l.length 0 [] (by omega) (by simp)).mono fun r hr => by rw [hr]; rfl
theorem implFor_v (st : ByteArray) (l : List S42) (hl : Gr 1000 1000 l) (s : ByteArray) : EvP (fun k => impl_GramFor.f k st l s) (fun r => r = if gramOk st l = true then forL l s l.length 0 else []) := by
  unfold impl_GramFor.f
  refine EvP.bind (implOk_v st l hl) fun t ht => ?_
  refine EvP.ite (fun h => ?_) fun h => EvP.now ?_
  · refine EvP.bind (rulesFor_v st l hl.1 s) fun r hr => EvP.now ?_
    rw [hr, ← ht, if_pos h]
  · rw [← ht, if_neg h]
end Go.Proofs.YtilogmimbdpnbaaDoor.DFnGramMore
