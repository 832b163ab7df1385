/- What the drawing of texts and edits answers: it answers, and within which bounds. -/
import Derived.Test.YtilogmimbdpnbaaDoorTFnEditsDo
namespace Go.Proofs.YtilogmimbdpnbaaDoor.DFnEditsDo
open Go.RowKit Go.Proofs.YtilogmimbdpnbaaDoor.PFnEditsDo Go.Proofs.YtilogmimbdpnbaaDoorW.PrintWords Go.Proofs.YtilogmimbdpnbaaDoorW.PrintLast Go.Proofs.YtilogmimbdpnbaaDoor.Ev
set_option linter.unusedVariables false
set_option linter.unusedSimpArgs false

theorem rd_T24_at (l : List S24) (hl : ∀ x ∈ l, x.f2.size ≤ 10) (i : Int) : (rd_T24 l i).f2.size ≤ 10 := by
  unfold rd_T24
  rw [List.getD_eq_getElem?_getD]
  cases h : l[i.toNat]? with
  | none => exact Nat.zero_le _
  | some v => exact hl v (List.mem_of_getElem? h)
theorem editsDo_l0 (l : List S24) (hl : ∀ x ∈ l, x.f2.size ≤ 10) (hn : l.length ≤ 1000) (d : Nat) : ∀ (t : ByteArray) (i : Int), t.size ≤ 1000 → 0 ≤ i → i ≤ l.length → (l.length : Int) - i = d →
    EvP (fun k => spec_EditsDo.l0 k t l i) (fun r => r.1.size ≤ max t.size 20) := by
  induction d with
  | zero =>
    intro t i ht h0 h1 hd
    refine EvP.step ?_
    simp only [spec_EditsDo.l0]
    exact EvP.no (by omega) (EvP.now (by show t.size ≤ _; omega))
  | succ d ih =>
    intro t i ht h0 h1 hd
    refine EvP.step ?_
    simp only [spec_EditsDo.l0]
    refine EvP.yes (by omega) (EvP.yes h0 ?_)
    refine EvP.bind (editDo_ev t ht _ _ _ (by have := rd_T24_at l hl i; omega)) fun a ha => ?_
    refine EvP.ite (fun _ => ?_) fun _ => EvP.now (by show (⟨#[]⟩ : ByteArray).size ≤ _; exact Nat.zero_le _)
    rw [w64 (x := i + 1) (by omega) (by omega)]
    exact (ih a.1 (i + 1) (by omega) (by omega) (by omega) (by omega)).mono fun r hr => by omega
theorem editsDo_ev (t : ByteArray) (ht : t.size ≤ 1000) (l : List S24) (hl : ∀ x ∈ l, x.f2.size ≤ 10) (hn : l.length ≤ 1000) :
    EvP (fun k => spec_EditsDo.f k t l) (fun r => r.1.size ≤ max t.size 20) := by
  unfold spec_EditsDo.f
  have hj : ∀ c : Bool, EvP (fun k => spec_EditsDo.j0 k t l c) (fun r => r.1.size ≤ max t.size 20) := by
    intro c
    refine EvP.step ?_
    simp only [spec_EditsDo.j0]
    refine EvP.ite (fun _ => EvP.now (by show (⟨#[]⟩ : ByteArray).size ≤ _; exact Nat.zero_le _)) fun _ => ?_
    exact editsDo_l0 l hl hn l.length t 0 ht (by omega) (by omega) (by omega)
  refine EvP.bind (long_ev t (by omega)) fun _ _ => ?_
  exact EvP.ite (fun _ => hj _) fun _ => hj _

theorem edits_l0 (s : List Int) (hs : Bytes s) (d : Nat) : ∀ (t : ByteArray) (l : List S24) (n p : Int), t.size ≤ 1000 → n = d → d ≤ 13 → 0 ≤ p → p ≤ 700000000 + 100 * (13 - d) → l.length ≤ 13 - d → (∀ x ∈ l, x.f2.size ≤ 10) →
    EvP (fun k => spec_l8Edits.l0 k t l n s p) (fun r => r.1.length ≤ 13 ∧ (∀ x ∈ r.1, x.f2.size ≤ 10) ∧ 0 ≤ r.2 ∧ r.2 ≤ p + 20 * d) := by
  induction d with
  | zero =>
    intro t l n p ht hn hd hp hp2 hl hm
    refine EvP.step ?_
    simp only [spec_l8Edits.l0]
    exact EvP.no (by omega) (EvP.now ⟨by show l.length ≤ 13; omega, hm, hp, by simp⟩)
  | succ d ih =>
    intro t l n p ht hn hd hp hp2 hl hm
    refine EvP.step ?_
    simp only [spec_l8Edits.l0]
    refine EvP.yes (by omega) ?_
    refine EvP.bind (any_ev s hs p t ht hp (by omega)) fun a ha => ?_
    refine EvP.bind (editDo_ev t ht _ _ _ (by omega)) fun b hb => ?_
    rw [w64 (x := n - 1) (by omega) (by omega)]
    have hm' : ∀ x ∈ l ++ [(⟨a.1, a.2.1, a.2.2.1⟩ : S24)], x.f2.size ≤ 10 := by
      intro x hx
      rcases List.mem_append.1 hx with hx | hx
      · exact hm x hx
      · simp at hx
        subst hx
        exact ha.1
    refine EvP.ite (fun _ => ?_) fun _ => ?_
    · refine EvP.yes (by omega) ?_
      exact (ih b.1 _ (n - 1) a.2.2.2 (by omega) (by omega) (by omega) (by omega) (by omega) (by simp; omega) hm').mono fun r hr => ⟨hr.1, hr.2.1, hr.2.2.1, by omega⟩
    refine EvP.bind (pick_ev s hs a.2.2.2 10 (by omega) (by omega) (by omega) (by omega)) fun c hc => ?_
    refine EvP.ite (fun _ => ?_) fun _ => ?_
    · refine EvP.yes (by omega) ?_
      exact (ih t _ (n - 1) c.2 ht (by omega) (by omega) (by omega) (by omega) (by simp; omega) hm').mono fun r hr => ⟨hr.1, hr.2.1, hr.2.2.1, by omega⟩
    · exact (ih t l (n - 1) c.2 ht (by omega) (by omega) (by omega) (by omega) (by omega) hm).mono fun r hr => ⟨hr.1, hr.2.1, hr.2.2.1, by omega⟩
theorem edits_ev (s : List Int) (hs : Bytes s) (p : Int) (t : ByteArray) (ht : t.size ≤ 1000) (hp : 0 ≤ p) (hp2 : p ≤ 600000000) :
    EvP (fun k => spec_l8Edits.f k s p t) (fun r => r.1.length ≤ 13 ∧ (∀ x ∈ r.1, x.f2.size ≤ 10) ∧ 0 ≤ r.2 ∧ r.2 ≤ p + 300) := by
  unfold spec_l8Edits.f
  refine EvP.bind (num_ev s hs p _ (by omega) (by omega) (by simp) (by simp)) fun a ha => ?_
  have h1 : 0 ≤ a.1 ∧ a.1 ≤ 13 := by
    obtain ⟨ha, _⟩ := ha
    generalize a.1 = z at ha
    simp at ha
    omega
  exact (edits_l0 s hs a.1.toNat t [] a.1 a.2 ht (by omega) (by omega) (by omega) (by omega) (by simp) (by simp)).mono fun r hr => ⟨hr.1, hr.2.1, hr.2.2.1, by omega⟩
end Go.Proofs.YtilogmimbdpnbaaDoor.DFnEditsDo
