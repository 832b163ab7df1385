/- The reference's AutoOk answers what the program's answers (autoOk). -/
import Derived.Test.YtdfciihjhknedaaDoorAFnExactAutoIs
namespace Go.Proofs.YtdfciihjhknedaaDoor.DFnExactAutoIs
open Go.RowKit Go.Proofs.YtdfciihjhknedaaDoor.PFnExactAutoIs Go.Proofs.YtdfciihjhknedaaDoorW.PrintWords Go.Proofs.YtdfciihjhknedaaDoorW.PrintLast Go.Proofs.YtdfciihjhknedaaDoor.Ev
set_option linter.unusedVariables false
set_option linter.unusedSimpArgs false

theorem rd_drop1 (l : List Int) (i : Nat) (h : i < l.length) : l.drop i = rd l (i : Int) :: l.drop (i + 1) := by
  unfold rd
  rw [List.getD_eq_getElem?_getD, show ((i : Int)).toNat = i by omega, List.getElem?_eq_getElem h]
  exact List.drop_eq_getElem_cons h
theorem autoOk_l1 (n : Int) (b : Int) (es : List Bool) (gs : List (List Int)) (j : Nat) (hj : j < gs.length) (hg : gs.length ≤ 10) (hr4 : (rd_L2 gs (j : Int)).length = 4) (rest : Bool)
    (hrest : EvP (fun k => spec_AutoOk.l0 k n ((j + 1 : Nat) : Int) b es gs) (fun r => r = rest)) (d : Nat) : ∀ (i : Nat), i + d = 4 →
    EvP (fun k => spec_AutoOk.l1 k n (j : Int) (i : Int) b es gs) (fun r => r = (((rd_L2 gs (j : Int)).drop i).all (goal n) && rest)) := by
  induction d with
  | zero =>
    intro i hd
    refine EvP.step ?_
    simp only [spec_AutoOk.l1]
    refine EvP.no (by omega) ?_
    rw [w64 (x := (j : Int) + 1) (by omega) (by omega), List.drop_eq_nil_of_le (by omega)]
    exact hrest.mono fun r hr => by simp [hr]
  | succ d ih =>
    intro i hd
    refine EvP.step ?_
    simp only [spec_AutoOk.l1]
    refine EvP.yes (by omega) (EvP.yes (by omega) (EvP.yes (by omega) (EvP.yes (by omega) (EvP.yes (by omega) ?_))))
    rw [w64 (x := (i : Int) + 1) (by omega) (by omega), rd_drop1 _ i (by omega), List.all_cons]
    refine EvP.ite (fun h => EvP.now ?_) fun h => EvP.ite (fun h2 => EvP.now ?_) fun h2 => ?_
    · have : decide (-1 ≤ rd (rd_L2 gs (j : Int)) (i : Int)) = false := by simpa using h
      simp [goal, this]
    · have : decide (rd (rd_L2 gs (j : Int)) (i : Int) < n) = false := by simpa using h2
      simp [goal, this]
    · have e1 : decide (-1 ≤ rd (rd_L2 gs (j : Int)) (i : Int)) = true := by simp; omega
      have e2 : decide (rd (rd_L2 gs (j : Int)) (i : Int) < n) = true := by simp; omega
      refine (ih (i + 1) (by omega)).mono fun r hr => ?_
      rw [hr]
      simp [goal, e1, e2]
theorem autoOk_l0 (n : Int) (b : Int) (es : List Bool) (gs : List (List Int)) (hg : gs.length ≤ 10) (hn : n = gs.length) (d : Nat) : ∀ (j : Nat), j + d = gs.length →
    EvP (fun k => spec_AutoOk.l0 k n (j : Int) b es gs) (fun r => r = (gs.drop j).all (okRow n)) := by
  induction d with
  | zero =>
    intro j hd
    refine EvP.step ?_
    simp only [spec_AutoOk.l0]
    refine EvP.no (by omega) (EvP.now ?_)
    rw [List.drop_eq_nil_of_le (by omega)]
    rfl
  | succ d ih =>
    intro j hd
    refine EvP.step ?_
    simp only [spec_AutoOk.l0]
    refine EvP.yes (by omega) (EvP.yes (by omega) (EvP.yes (by omega) ?_))
    rw [rdL2_drop gs j (by omega), List.all_cons]
    refine EvP.ite (fun h => ?_) fun h => EvP.now ?_
    · have h4 : (rd_L2 gs (j : Int)).length = 4 := by omega
      refine (autoOk_l1 n b es gs j (by omega) hg h4 _ (ih (j + 1) (by omega)) 4 0 rfl).mono fun r hr => ?_
      rw [hr, List.drop_zero]
      simp [okRow, h4]
    · have h4 : decide ((rd_L2 gs (j : Int)).length = 4) = false := decide_eq_false (by omega)
      simp [okRow, h4]
theorem specAutoOk_v (b : Int) (es : List Bool) (gs : List (List Int)) : EvP (fun k => spec_AutoOk.f k b es gs) (fun r => r = autoOk b es gs) := by
  unfold spec_AutoOk.f
  have hf : EvP (fun k => spec_AutoOk.j0 k (es.length : Int) true b es gs) (fun r => r = false) := by
    refine EvP.step ?_
    simp only [spec_AutoOk.j0]
    exact EvP.yes trivial (EvP.now rfl)
  have no : ∀ (h : ¬ (1 ≤ es.length ∧ es.length ≤ 6 ∧ gs.length = es.length ∧ 0 ≤ b ∧ b < es.length)) r, r = false → r = autoOk b es gs := by
    intro h r hr
    rw [hr]
    unfold autoOk
    rw [decide_eq_false h]
    rfl
  refine EvP.ite (fun h => hf.mono (no (by omega))) fun h1 => ?_
  refine EvP.ite (fun h => hf.mono (no (by omega))) fun h2 => ?_
  refine EvP.ite (fun h3 => ?_) fun h3 => hf.mono (no (by omega))
  refine EvP.ite (fun h => hf.mono (no (by omega))) fun h4 => ?_
  refine EvP.step ?_
  simp only [spec_AutoOk.j0]
  refine EvP.ite (fun h => EvP.now (no (by have := of_decide_eq_true h; omega) _ rfl)) fun h => ?_
  have h5 : ¬ b ≥ (es.length : Int) := fun hh => h (decide_eq_true hh)
  refine (autoOk_l0 (es.length : Int) b es gs (by omega) (by omega) gs.length 0 (by omega)).mono fun r hr => ?_
  rw [hr, List.drop_zero]
  unfold autoOk
  rw [decide_eq_true (by omega)]
  rfl
end Go.Proofs.YtdfciihjhknedaaDoor.DFnExactAutoIs
