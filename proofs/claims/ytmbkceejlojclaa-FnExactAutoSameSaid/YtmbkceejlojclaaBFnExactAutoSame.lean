/- The reference's AutoSame answers what the program's answers (autoSame), for small automata. -/
import Derived.Test.YtmbkceejlojclaaAFnExactAutoSame
namespace Go.Proofs.Ytmbkceejlojclaa.DFnExactAutoSame
open Go.RowKit Go.Proofs.Ytmbkceejlojclaa.PFnExactAutoSame Go.Proofs.YtmbkceejlojclaaW.PrintWords Go.Proofs.YtmbkceejlojclaaW.PrintLast Go.Proofs.Ytmbkceejlojclaa.Ev
set_option linter.unusedVariables false
set_option linter.unusedSimpArgs false

theorem rdI_drop (l : List Int) (i : Nat) (h : i < l.length) : l.drop i = rd l (i : Int) :: l.drop (i + 1) := by
  unfold rd
  rw [List.getD_eq_getElem?_getD, show ((i : Int)).toNat = i by omega, List.getElem?_eq_getElem h]
  exact List.drop_eq_getElem_cons h
theorem rdB_drop (l : List Bool) (i : Nat) (h : i < l.length) : l.drop i = rdOf false l (i : Int) :: l.drop (i + 1) := by
  unfold rdOf
  rw [List.getD_eq_getElem?_getD, show ((i : Int)).toNat = i by omega, List.getElem?_eq_getElem h]
  exact List.drop_eq_getElem_cons h
theorem dec_cons {α : Type} [DecidableEq α] (a b : α) (x y : List α) : decide (a :: x = b :: y) = (decide (a = b) && decide (x = y)) := by
  by_cases h : a = b <;> by_cases h' : x = y <;> simp [h, h']
theorem same_l2 (b : Int) (es : List Bool) (gs : List (List Int)) (b' : Int) (es' : List Bool) (gs' : List (List Int)) (hg : Small2 gs) (hg' : Small2 gs') (j : Nat) (hj : j < gs.length) (hj' : j < gs'.length)
    (hlen : (rd_L2 gs (j : Int)).length = (rd_L2 gs' (j : Int)).length) (rest : Bool) (hrest : EvP (fun k => spec_AutoSame.l1 k ((j + 1 : Nat) : Int) b es gs b' es' gs') (fun r => r = rest)) (d : Nat) : ∀ i : Nat, i + d = (rd_L2 gs (j : Int)).length →
    EvP (fun k => spec_AutoSame.l2 k (j : Int) (i : Int) b es gs b' es' gs') (fun r => r = (decide ((rd_L2 gs (j : Int)).drop i = (rd_L2 gs' (j : Int)).drop i) && rest)) := by
  have hs := hg.2 _ (rdL2_mem gs j hj)
  have hn := hg.1
  induction d with
  | zero =>
    intro i hd
    refine EvP.step ?_
    simp only [spec_AutoSame.l2]
    refine EvP.yes (by omega) (EvP.yes (by omega) (EvP.no (by omega) ?_))
    rw [w64 (x := (j : Int) + 1) (by omega) (by omega), List.drop_eq_nil_of_le (by omega), List.drop_eq_nil_of_le (by omega)]
    exact hrest.mono fun r hr => by simp [hr]
  | succ d ih =>
    intro i hd
    refine EvP.step ?_
    simp only [spec_AutoSame.l2]
    refine EvP.yes (by omega) (EvP.yes (by omega) (EvP.yes (by omega) (EvP.yes (by omega) (EvP.yes (by omega) (EvP.yes (by omega) ?_)))))
    rw [w64 (x := (i : Int) + 1) (by omega) (by omega), rdI_drop (rd_L2 gs (j : Int)) i (by omega), rdI_drop (rd_L2 gs' (j : Int)) i (by omega), dec_cons]
    refine EvP.ite (fun h => (ih (i + 1) (by omega)).mono fun r hr => ?_) fun h => EvP.now ?_
    · rw [hr, decide_eq_true h, Bool.true_and]
    · rw [decide_eq_false h, Bool.false_and, Bool.false_and]
theorem same_l1 (b : Int) (es : List Bool) (gs : List (List Int)) (b' : Int) (es' : List Bool) (gs' : List (List Int)) (hg : Small2 gs) (hg' : Small2 gs') (hlen : gs.length = gs'.length) (d : Nat) : ∀ j : Nat, j + d = gs.length →
    EvP (fun k => spec_AutoSame.l1 k (j : Int) b es gs b' es' gs') (fun r => r = decide (gs.drop j = gs'.drop j)) := by
  have hn := hg.1
  induction d with
  | zero =>
    intro j hd
    refine EvP.step ?_
    simp only [spec_AutoSame.l1]
    refine EvP.no (by omega) (EvP.now ?_)
    rw [List.drop_eq_nil_of_le (by omega), List.drop_eq_nil_of_le (by omega)]
    rfl
  | succ d ih =>
    intro j hd
    refine EvP.step ?_
    simp only [spec_AutoSame.l1]
    refine EvP.yes (by omega) (EvP.yes (by omega) (EvP.yes (by omega) ?_))
    rw [rdL2_drop gs j (by omega), rdL2_drop gs' j (by omega), dec_cons]
    refine EvP.ite (fun h => ?_) fun h => EvP.now ?_
    · refine (same_l2 b es gs b' es' gs' hg hg' j (by omega) (by omega) (by omega) _ (ih (j + 1) (by omega)) (rd_L2 gs (j : Int)).length 0 (by omega)).mono fun r hr => ?_
      rw [hr, List.drop_zero, List.drop_zero]
    · rw [decide_eq_false (fun e => h (by rw [e])), Bool.false_and]
theorem same_l0 (b : Int) (es : List Bool) (gs : List (List Int)) (b' : Int) (es' : List Bool) (gs' : List (List Int)) (he : es.length ≤ 1048576) (hg : Small2 gs) (hg' : Small2 gs') (hel : es.length = es'.length) (hlen : gs.length = gs'.length) (d : Nat) : ∀ i : Nat, i + d = es.length →
    EvP (fun k => spec_AutoSame.l0 k (i : Int) b es gs b' es' gs') (fun r => r = (decide (es.drop i = es'.drop i) && decide (gs = gs'))) := by
  induction d with
  | zero =>
    intro i hd
    refine EvP.step ?_
    simp only [spec_AutoSame.l0]
    refine EvP.no (by omega) ?_
    rw [List.drop_eq_nil_of_le (by omega), List.drop_eq_nil_of_le (by omega)]
    refine (same_l1 b es gs b' es' gs' hg hg' hlen gs.length 0 (by omega)).mono fun r hr => ?_
    rw [hr]
    simp
  | succ d ih =>
    intro i hd
    refine EvP.step ?_
    simp only [spec_AutoSame.l0]
    refine EvP.yes (by omega) (EvP.yes (by omega) (EvP.yes (by omega) ?_))
    rw [w64 (x := (i : Int) + 1) (by omega) (by omega), rdB_drop es i (by omega), rdB_drop es' i (by omega), dec_cons]
    refine EvP.ite (fun h => EvP.now ?_) fun h => (ih (i + 1) (by omega)).mono fun r hr => ?_
    · rw [decide_eq_false (by simpa using h), Bool.false_and, Bool.false_and]
    · have he' : rdOf false es (i : Int) = rdOf false es' (i : Int) := by simpa using h
      rw [hr, decide_eq_true he', Bool.true_and]
theorem specAutoSame_v (b : Int) (es : List Bool) (gs : List (List Int)) (b' : Int) (es' : List Bool) (gs' : List (List Int)) (he : es.length ≤ 1048576) (hg : Small2 gs) (hg' : Small2 gs') :
    EvP (fun k => spec_AutoSame.f k b es gs b' es' gs') (fun r => r = autoSame b es gs b' es' gs') := by
  unfold spec_AutoSame.f
  have hf : EvP (fun k => spec_AutoSame.j0 k true b es gs b' es' gs') (fun r => r = false) := by
    refine EvP.step ?_
    simp only [spec_AutoSame.j0]
    exact EvP.yes trivial (EvP.now rfl)
  refine EvP.ite (fun hb => ?_) fun hb => hf.mono fun r hr => by rw [hr]; unfold autoSame; rw [decide_eq_false hb]; rfl
  refine EvP.ite (fun hel => ?_) fun hel => hf.mono fun r hr => by rw [hr]; unfold autoSame; rw [decide_eq_false (fun e : es = es' => hel (by rw [e])), Bool.false_and, Bool.and_false]
  refine EvP.step ?_
  simp only [spec_AutoSame.j0]
  refine EvP.ite (fun h => EvP.now ?_) fun h => ?_
  · have hne : ¬ gs = gs' := fun e => by rw [e] at h; simp at h
    unfold autoSame
    rw [decide_eq_false hne, Bool.and_false, Bool.and_false]
  · have hlen : (gs.length : Int) = (gs'.length : Int) := by simpa using h
    refine (same_l0 b es gs b' es' gs' he hg hg' (by omega) (by omega) es.length 0 (by omega)).mono fun r hr => ?_
    rw [hr, List.drop_zero, List.drop_zero]
    unfold autoSame
    rw [decide_eq_true hb, Bool.true_and]
end Go.Proofs.Ytmbkceejlojclaa.DFnExactAutoSame
