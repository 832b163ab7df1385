/- What the exact laws' own helpers answer for an automaton: szAuto bounds every row, toAuto copies, eqAuto of the same is true. -/
import Derived.Test.YtdfciihjhknedaaDoorEv
import Derived.Test.YtdfciihjhknedaaDoorQFnExactAutoIsx5
namespace Go.Proofs.YtdfciihjhknedaaDoor.DFnExactAutoIs
open Go.RowKit Go.Proofs.YtdfciihjhknedaaDoor.PFnExactAutoIs Go.Proofs.YtdfciihjhknedaaDoorW.PrintWords Go.Proofs.YtdfciihjhknedaaDoorW.PrintLast Go.Proofs.YtdfciihjhknedaaDoor.Ev
set_option linter.unusedVariables false
set_option linter.unusedSimpArgs false

theorem rdL2_drop (l : List (List Int)) (i : Nat) (h : i < l.length) : l.drop i = rd_L2 l (i : Int) :: l.drop (i + 1) := by
  unfold rd_L2
  rw [List.getD_eq_getElem?_getD, show ((i : Int)).toNat = i by omega, List.getElem?_eq_getElem h]
  exact List.drop_eq_getElem_cons h
theorem rdL2_mem (l : List (List Int)) (i : Nat) (h : i < l.length) : rd_L2 l (i : Int) ∈ l := by
  unfold rd_L2
  rw [List.getD_eq_getElem?_getD, show ((i : Int)).toNat = i by omega, List.getElem?_eq_getElem h]
  exact List.getElem_mem _
/-- Every row is a Go slice. -/
def Rows2 (l : List (List Int)) : Prop := l.length ≤ 9223372036854775807 ∧ ∀ x ∈ l, x.length ≤ 9223372036854775807
/-- Every row is small. -/
def Small2 (l : List (List Int)) : Prop := l.length ≤ 1048576 ∧ ∀ x ∈ l, x.length ≤ 1048576

theorem szIntSS_l0 (l : List (List Int)) (hl : Small2 l ∨ l.length ≤ 1048576 ∧ ∀ x ∈ l, x.length ≤ 9223372036854775807) (d : Nat) : ∀ (i : Nat) (left : Int), i + d = l.length → 0 ≤ left → left ≤ 1048576 →
    EvP (fun k => laws_szIntSS.l0 k l left (i : Int)) (fun r => r < 0 ∨ (0 ≤ r ∧ r ≤ 1048576 ∧ ∀ x ∈ l.drop i, x.length ≤ 1048576)) := by
  have hn : l.length ≤ 1048576 := by
    rcases hl with h | h
    · exact h.1
    · exact h.1
  have hm : ∀ x ∈ l, x.length ≤ 9223372036854775807 := by
    rcases hl with h | h
    · intro x hx; have := h.2 x hx; omega
    · exact h.2
  induction d with
  | zero =>
    intro i left hd h0 h1
    refine EvP.step ?_
    simp only [laws_szIntSS.l0]
    refine EvP.no (by omega) (EvP.now (.inr ⟨h0, h1, ?_⟩))
    rw [List.drop_eq_nil_of_le (by omega)]
    simp
  | succ d ih =>
    intro i left hd h0 h1
    refine EvP.step ?_
    simp only [laws_szIntSS.l0]
    refine EvP.yes (by omega) (EvP.yes (by omega) ?_)
    have hx := hm _ (rdL2_mem l i (by omega))
    unfold laws_szIntS.f
    rw [w64 (x := left - ((rd_L2 l (i : Int)).length : Int)) (by omega) (by omega), w64 (x := (i : Int) + 1) (by omega) (by omega)]
    by_cases h2 : left - ((rd_L2 l (i : Int)).length : Int) < 0
    · simp only [if_pos h2]
      refine EvP.bindSome (EvP.yes (by decide) (EvP.now (.inl (by decide))))
    · simp only [if_neg h2]
      refine EvP.bindSome (EvP.no (by omega) ?_)
      refine (ih (i + 1) _ (by omega) (by omega) (by omega)).mono fun r hr => ?_
      rcases hr with hr | ⟨a, b, c⟩
      · exact .inl hr
      · refine .inr ⟨a, b, ?_⟩
        rw [rdL2_drop l i (by omega)]
        intro x hx'
        rcases List.mem_cons.1 hx' with rfl | hx'
        · omega
        · exact c x hx'
theorem szAuto_v (b : Int) (es : List Bool) (gs : List (List Int)) (he : es.length ≤ 9223372036854775807) (hg : Rows2 gs) (left : Int) (h0 : 0 ≤ left) (h1 : left ≤ 1048576) :
    EvP (fun k => laws_szAuto.f k b es gs left) (fun r => r < 0 ∨ (0 ≤ r ∧ r ≤ 1048576 ∧ es.length ≤ 1048576 ∧ Small2 gs)) := by
  unfold laws_szAuto.f laws_szBoolS.f
  rw [w64 (x := left - (es.length : Int)) (by omega) (by omega)]
  by_cases h2 : left - (es.length : Int) < 0
  · simp only [if_pos h2]
    refine EvP.bindSome (EvP.yes (by decide) (EvP.now (.inl (by decide))))
  · simp only [if_neg h2]
    refine EvP.bindSome (EvP.no (by omega) ?_)
    have hl := hg.1
    refine EvP.bind (P := fun r => r < 0 ∨ (0 ≤ r ∧ r ≤ 1048576 ∧ Small2 gs)) ?_ fun r hr => EvP.ite (fun h => EvP.now (.inl (by decide))) fun h => EvP.now ?_
    · unfold laws_szIntSS.f
      rw [w64 (x := left - (es.length : Int) - (gs.length : Int)) (by omega) (by omega)]
      refine EvP.ite (fun _ => EvP.now (.inl (by decide))) fun h3 => ?_
      refine (szIntSS_l0 gs (.inr ⟨by omega, hg.2⟩) gs.length 0 _ (by omega) (by omega) (by omega)).mono fun r hr => ?_
      rcases hr with hr | ⟨a, b, c⟩
      · exact .inl hr
      · exact .inr ⟨a, b, by omega, by simpa using c⟩
    · rcases hr with hr | ⟨a, b, c⟩
      · omega
      · exact .inr ⟨a, b, by omega, c⟩

theorem set_step {α : Type} (dv : α) (x0 x3 : List α) (i : Nat) (hl : x3.length = x0.length) (hi : i < x0.length) (ht : x3.take i = x0.take i) : (x3.set i (x0.getD i dv)).take (i + 1) = x0.take (i + 1) := by
  have e1 : (x3.set i (x0.getD i dv)).take i = x0.take i := by
    rw [List.take_set, List.set_eq_of_length_le (by rw [List.length_take]; omega), ht]
  rw [List.take_add_one, List.take_add_one, e1, List.getElem?_set_self (by omega), List.getElem?_eq_getElem hi, List.getD_eq_getElem?_getD, List.getElem?_eq_getElem hi]
  rfl
theorem take_all {α : Type} {x0 x3 : List α} {i : Nat} (hl : x3.length = x0.length) (hi : x0.length ≤ i) (ht : x3.take i = x0.take i) : x3 = x0 := by
  rwa [List.take_of_length_le (by omega), List.take_of_length_le (by omega)] at ht
theorem toBoolS_l0 (x0 : List Bool) (hn : x0.length ≤ 1048576) (d : Nat) : ∀ (i : Nat) (x3 : List Bool), i + d = x0.length → x3.length = x0.length → x3.take i = x0.take i →
    EvP (fun k => laws_toBoolS.l0 k x0 x3 (i : Int)) (fun r => r = x0) := by
  induction d with
  | zero =>
    intro i x3 hd hl ht
    refine EvP.step ?_
    simp only [laws_toBoolS.l0]
    exact EvP.no (by omega) (EvP.now (take_all hl (by omega) ht))
  | succ d ih =>
    intro i x3 hd hl ht
    refine EvP.step ?_
    simp only [laws_toBoolS.l0]
    refine EvP.yes (by omega) (EvP.yes (by omega) (EvP.yes (by omega) ?_))
    rw [w64 (x := (i : Int) + 1) (by omega) (by omega)]
    refine ih (i + 1) _ (by omega) (by simp; omega) ?_
    have e : ((i : Int)).toNat = i := by omega
    unfold rdOf
    rw [e]
    exact set_step _ x0 x3 i hl (by omega) ht
theorem toBoolS_v (x0 : List Bool) (hn : x0.length ≤ 1048576) : EvP (fun k => laws_toBoolS.f k x0) (fun r => r = x0) := by
  unfold laws_toBoolS.f
  exact EvP.yes (by omega) (EvP.yes (by omega) (toBoolS_l0 x0 hn x0.length 0 _ (by omega) (by simp) (by simp)))
theorem toIntS_l0 (x0 : List Int) (hn : x0.length ≤ 1048576) (d : Nat) : ∀ (i : Nat) (x3 : List Int), i + d = x0.length → x3.length = x0.length → x3.take i = x0.take i →
    EvP (fun k => laws_toIntS.l0 k x0 x3 (i : Int)) (fun r => r = x0) := by
  induction d with
  | zero =>
    intro i x3 hd hl ht
    refine EvP.step ?_
    simp only [laws_toIntS.l0]
    exact EvP.no (by omega) (EvP.now (take_all hl (by omega) ht))
  | succ d ih =>
    intro i x3 hd hl ht
    refine EvP.step ?_
    simp only [laws_toIntS.l0]
    refine EvP.yes (by omega) (EvP.yes (by omega) (EvP.yes (by omega) ?_))
    rw [w64 (x := (i : Int) + 1) (by omega) (by omega)]
    refine ih (i + 1) _ (by omega) (by simp; omega) ?_
    have e : ((i : Int)).toNat = i := by omega
    unfold rd
    rw [e]
    exact set_step _ x0 x3 i hl (by omega) ht
theorem toIntS_v (x0 : List Int) (hn : x0.length ≤ 1048576) : EvP (fun k => laws_toIntS.f k x0) (fun r => r = x0) := by
  unfold laws_toIntS.f
  exact EvP.yes (by omega) (EvP.yes (by omega) (toIntS_l0 x0 hn x0.length 0 _ (by omega) (by simp) (by simp)))
theorem toIntSS_l0 (x0 : List (List Int)) (hn : Small2 x0) (d : Nat) : ∀ (i : Nat) (x3 : List (List Int)), i + d = x0.length → x3.length = x0.length → x3.take i = x0.take i →
    EvP (fun k => laws_toIntSS.l0 k x0 x3 (i : Int)) (fun r => r = x0) := by
  have hn1 := hn.1
  induction d with
  | zero =>
    intro i x3 hd hl ht
    refine EvP.step ?_
    simp only [laws_toIntSS.l0]
    exact EvP.no (by omega) (EvP.now (take_all hl (by omega) ht))
  | succ d ih =>
    intro i x3 hd hl ht
    refine EvP.step ?_
    simp only [laws_toIntSS.l0]
    refine EvP.yes (by omega) (EvP.yes (by omega) ?_)
    refine EvP.bind (toIntS_v _ (hn.2 _ (rdL2_mem x0 i (by omega)))) fun y hy => EvP.yes (by omega) ?_
    rw [w64 (x := (i : Int) + 1) (by omega) (by omega), hy]
    refine ih (i + 1) _ (by omega) (by simp; omega) ?_
    have e : ((i : Int)).toNat = i := by omega
    unfold rd_L2
    rw [e]
    exact set_step _ x0 x3 i hl (by omega) ht
theorem toAuto_v (b : Int) (es : List Bool) (gs : List (List Int)) (he : es.length ≤ 1048576) (hg : Small2 gs) : EvP (fun k => laws_toAuto.f k b es gs) (fun r => r = (b, es, gs)) := by
  unfold laws_toAuto.f
  refine EvP.bind (toBoolS_v es he) fun x hx => ?_
  refine EvP.bind (P := fun r => r = gs) ?_ fun y hy => EvP.now (by rw [hx, hy])
  unfold laws_toIntSS.f
  have := hg.1
  exact EvP.yes (by omega) (EvP.yes (by omega) (toIntSS_l0 gs hg gs.length 0 _ (by omega) (by simp) (by simp)))

theorem eqBoolS_l0 (x : List Bool) (hn : x.length ≤ 1048576) (d : Nat) : ∀ (i : Nat), i + d = x.length → EvP (fun k => laws_eqBoolS.l0 k x x (i : Int)) (fun r => r = true) := by
  induction d with
  | zero =>
    intro i hd
    refine EvP.step ?_
    simp only [laws_eqBoolS.l0]
    exact EvP.no (by omega) (EvP.now rfl)
  | succ d ih =>
    intro i hd
    refine EvP.step ?_
    simp only [laws_eqBoolS.l0]
    have hlt : (i : Int) < (x.length : Int) := by omega
    simp only [if_pos hlt, if_pos (show (0 : Int) ≤ (i : Int) by omega)]
    rw [w64 (x := (i : Int) + 1) (by omega) (by omega)]
    exact EvP.no (by simp) (ih (i + 1) (by omega))
theorem eqIntS_l0 (x : List Int) (hn : x.length ≤ 1048576) (d : Nat) : ∀ (i : Nat), i + d = x.length → EvP (fun k => laws_eqIntS.l0 k x x (i : Int)) (fun r => r = true) := by
  induction d with
  | zero =>
    intro i hd
    refine EvP.step ?_
    simp only [laws_eqIntS.l0]
    exact EvP.no (by omega) (EvP.now rfl)
  | succ d ih =>
    intro i hd
    refine EvP.step ?_
    simp only [laws_eqIntS.l0]
    have hlt : (i : Int) < (x.length : Int) := by omega
    simp only [if_pos hlt, if_pos (show (0 : Int) ≤ (i : Int) by omega), if_true]
    rw [w64 (x := (i : Int) + 1) (by omega) (by omega)]
    exact ih (i + 1) (by omega)
theorem eqIntSS_l0 (x : List (List Int)) (hn : Small2 x) (d : Nat) : ∀ (i : Nat), i + d = x.length → EvP (fun k => laws_eqIntSS.l0 k x x (i : Int)) (fun r => r = true) := by
  have hn1 := hn.1
  induction d with
  | zero =>
    intro i hd
    refine EvP.step ?_
    simp only [laws_eqIntSS.l0]
    exact EvP.no (by omega) (EvP.now rfl)
  | succ d ih =>
    intro i hd
    refine EvP.step ?_
    simp only [laws_eqIntSS.l0]
    have hlt : (i : Int) < (x.length : Int) := by omega
    simp only [if_pos hlt, if_pos (show (0 : Int) ≤ (i : Int) by omega)]
    rw [w64 (x := (i : Int) + 1) (by omega) (by omega)]
    refine EvP.bind (P := fun r => r = true) ?_ fun t ht => EvP.yes ht (ih (i + 1) (by omega))
    unfold laws_eqIntS.f
    exact EvP.yes rfl (eqIntS_l0 (rd_L2 x (i : Int)) (hn.2 _ (rdL2_mem x i (by omega))) (rd_L2 x (i : Int)).length 0 (by omega))
theorem eqAuto_v (b : Int) (es : List Bool) (gs : List (List Int)) (he : es.length ≤ 1048576) (hg : Small2 gs) : EvP (fun k => laws_eqAuto.f k b es gs b es gs) (fun r => r = true) := by
  unfold laws_eqAuto.f
  refine EvP.yes rfl ?_
  refine EvP.bind (P := fun r => r = true) ?_ fun t ht => EvP.yes ht ?_
  · unfold laws_eqBoolS.f
    exact EvP.yes rfl (eqBoolS_l0 es he es.length 0 (by omega))
  · refine EvP.bind (P := fun r => r = true) ?_ fun t ht => EvP.yes ht (EvP.now rfl)
    unfold laws_eqIntSS.f
    exact EvP.yes rfl (eqIntSS_l0 gs hg gs.length 0 (by omega))
end Go.Proofs.YtdfciihjhknedaaDoor.DFnExactAutoIs
