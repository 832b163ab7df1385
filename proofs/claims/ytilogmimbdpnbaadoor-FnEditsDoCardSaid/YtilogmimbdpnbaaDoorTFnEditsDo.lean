/- What the drawing of texts and edits answers: it answers, and within which bounds. -/
import Derived.Test.YtilogmimbdpnbaaDoorRFnEditsDo
namespace Go.Proofs.YtilogmimbdpnbaaDoor.DFnEditsDo
open Go.RowKit Go.Proofs.YtilogmimbdpnbaaDoor.PFnEditsDo Go.Proofs.YtilogmimbdpnbaaDoorW.PrintWords Go.Proofs.YtilogmimbdpnbaaDoorW.PrintLast Go.Proofs.YtilogmimbdpnbaaDoor.Ev
set_option linter.unusedVariables false
set_option linter.unusedSimpArgs false

theorem text_l0 (s : List Int) (hs : Bytes s) (n : Int) (hn : n ≤ 1000) (d : Nat) : ∀ (acc : ByteArray) (i p : Int), 0 ≤ i → 0 ≤ p → p + (n - i) ≤ 900000000 → p ≤ 900000000 → (n - i).toNat = d → acc.size + d ≤ 1000 →
    EvP (fun k => spec_l4Text.l0 k n acc i s p) (fun r => r.1.size = acc.size + d ∧ r.2 = p + d) := by
  induction d with
  | zero =>
    intro acc i p hi hp hp2 hp3 hd ha
    refine EvP.step ?_
    simp only [spec_l4Text.l0]
    exact EvP.no (by omega) (EvP.now ⟨by simp, by simp⟩)
  | succ d ih =>
    intro acc i p hi hp hp2 hp3 hd ha
    refine EvP.step ?_
    simp only [spec_l4Text.l0]
    refine EvP.yes (by omega) ?_
    refine EvP.bind (of_ev s hs p _ hp (by omega) (by simp) (by simp)) fun a ha' => ?_
    obtain ⟨hm, hr⟩ := ha'
    have h1 : a.1.size = 1 := by
      generalize a.1 = z at hm
      simp at hm
      rcases hm with rfl | rfl | rfl | rfl | rfl | rfl <;> rfl
    refine EvP.yes (by omega) ?_
    rw [w64 (x := i + 1) (by omega) (by omega), hr]
    refine (ih (acc ++ a.1) (i + 1) (p + 1) (by omega) (by omega) (by omega) (by omega) (by omega) (by rw [ByteArray.size_append]; omega)).mono fun r hr => ?_
    rw [ByteArray.size_append] at hr
    exact ⟨by omega, by omega⟩
theorem text_ev (s : List Int) (hs : Bytes s) (p n : Int) (hn0 : 0 ≤ n) (hn : n ≤ 900) (hp : 0 ≤ p) (hp2 : p ≤ 800000000) :
    EvP (fun k => spec_l4Text.f k s p n) (fun r => r.1.size = n.toNat ∧ r.2 = p + n) := by
  unfold spec_l4Text.f
  refine (text_l0 s hs n (by omega) n.toNat _ 0 p (by omega) hp (by omega) (by omega) (by omega) (by show 0 + n.toNat ≤ 1000; omega)).mono fun r hr => ?_
  obtain ⟨h1, h2⟩ := hr
  have : (⟨#[]⟩ : ByteArray).size = 0 := rfl
  exact ⟨by omega, by omega⟩

theorem small_ev (c : Int) : EvP (fun _ => spec_l1Small.f c) (fun _ => True) := by
  unfold spec_l1Small.f
  exact EvP.ite (fun _ => EvP.now trivial) fun _ => EvP.now trivial
theorem long_l0 (t : ByteArray) (ht : t.size ≤ 1000000) (d : Nat) : ∀ (i : Int), 0 ≤ i → i ≤ t.size → (t.size : Int) - i = d →
    EvP (fun k => spec_l8Long.l0 k t i) (fun r => r = true → t.size ≤ 20) := by
  induction d with
  | zero =>
    intro i h0 h1 hd
    refine EvP.step ?_
    simp only [spec_l8Long.l0]
    exact EvP.no (by omega) (EvP.now fun h => by have := of_decide_eq_true h; omega)
  | succ d ih =>
    intro i h0 h1 hd
    refine EvP.step ?_
    simp only [spec_l8Long.l0]
    refine EvP.yes (by omega) (EvP.yes h0 ?_)
    refine EvP.bind (small_ev _) fun a _ => ?_
    refine EvP.ite (fun _ => ?_) fun _ => EvP.now fun h => by cases h
    rw [w64 (x := i + 1) (by omega) (by omega)]
    exact ih (i + 1) (by omega) (by omega) (by omega)
theorem long_ev (t : ByteArray) (ht : t.size ≤ 1000000) : EvP (fun k => spec_l8Long.f k t) (fun r => r = true → t.size ≤ 20) := by
  unfold spec_l8Long.f
  exact long_l0 t ht t.size 0 (by omega) (by omega) (by omega)
theorem signSmall_ev (t : ByteArray) : EvP (fun _ => spec_SignSmall.f t) (fun _ => True) := by
  unfold spec_SignSmall.f
  refine EvP.ite (fun h => EvP.yes (by omega) ?_) fun _ => EvP.now trivial
  exact EvP.bind (small_ev _) fun _ _ => EvP.now trivial
theorem edit_ev (t : ByteArray) (ht : t.size ≤ 1000000) (a b : Int) (c : ByteArray) :
    EvP (fun _ => spec_l8Edit.f t a b c) (fun r => r = true → 0 ≤ b ∧ b ≤ t.size ∧ (a = 1 ∨ b < t.size)) := by
  unfold spec_l8Edit.f
  refine EvP.ite (fun h1 => ?_) fun h1 => ?_
  · refine EvP.ite (fun h2 => ?_) fun _ => EvP.now fun h => by cases h
    refine EvP.ite (fun h3 => ?_) fun _ => EvP.now fun h => by cases h
    exact EvP.bind (signSmall_ev _) fun _ _ => EvP.now fun _ => ⟨h2, h3, .inl h1⟩
  refine EvP.ite (fun h2 => ?_) fun h2 => ?_
  · refine EvP.ite (fun h3 => ?_) fun _ => EvP.now fun h => by cases h
    refine EvP.ite (fun h4 => ?_) fun _ => EvP.now fun h => by cases h
    exact EvP.now fun _ => ⟨h3, by omega, .inr h4⟩
  refine EvP.ite (fun h3 => ?_) fun _ => EvP.now fun h => by cases h
  refine EvP.ite (fun h4 => ?_) fun _ => EvP.now fun h => by cases h
  refine EvP.ite (fun h5 => ?_) fun _ => EvP.now fun h => by cases h
  refine EvP.bind (signSmall_ev _) fun _ _ => ?_
  refine EvP.ite (fun h6 => ?_) fun _ => EvP.now fun h => by cases h
  rw [w64 (x := b + 1) (by omega) (by omega)]
  exact EvP.yes (by omega) (EvP.yes (by omega) (EvP.yes (by omega) (EvP.now fun _ => ⟨h4, by omega, .inr h5⟩)))
theorem do_ev (t : ByteArray) (ht : t.size ≤ 1000000) (a b : Int) (c : ByteArray) (hc : c.size ≤ 1000) (h0 : 0 ≤ b) (h1 : b ≤ t.size) (h2 : a = 1 ∨ b < t.size) :
    EvP (fun _ => spec_l8Do.f t a b c) (fun r => r.size ≤ t.size + c.size) := by
  have e0 : ∀ (i j : Nat), (t.extract i j).size = min j t.size - i := fun i j => by rw [ByteArray.size_extract]
  unfold spec_l8Do.f
  refine EvP.ite (fun h3 => ?_) fun h3 => ?_
  · refine EvP.yes h0 (EvP.yes h1 (EvP.yes ?_ (EvP.yes ?_ (EvP.now ?_))))
    · rw [e0]; omega
    · rw [ByteArray.size_append, e0, e0]; omega
    · rw [ByteArray.size_append, ByteArray.size_append, e0, e0]; omega
  · have h4 : b < t.size := by rcases h2 with h2 | h2 <;> omega
    rw [w64 (x := b + 1) (by omega) (by omega)]
    refine EvP.yes h0 (EvP.yes h1 (EvP.yes ?_ (EvP.yes (by omega) (EvP.yes (by omega) (EvP.yes ?_ (EvP.now ?_))))))
    · rw [e0]; omega
    · rw [ByteArray.size_append, e0, e0]; omega
    · rw [ByteArray.size_append, ByteArray.size_append, e0, e0]; omega
theorem editDo_ev (t : ByteArray) (ht : t.size ≤ 1000) (a b : Int) (c : ByteArray) (hc : c.size ≤ 1000) :
    EvP (fun k => spec_EditDo.f k t a b c) (fun r => r.1.size ≤ 20) := by
  have hz : (⟨#[]⟩ : ByteArray).size = 0 := rfl
  unfold spec_EditDo.f
  refine EvP.bind (long_ev t (by omega)) fun l hl => ?_
  refine EvP.ite (fun h1 => ?_) fun _ => EvP.now (by show (⟨#[]⟩ : ByteArray).size ≤ 20; omega)
  refine EvP.bind (edit_ev t (by omega) a b c) fun e he => ?_
  refine EvP.ite (fun h2 => ?_) fun _ => EvP.now (by show (⟨#[]⟩ : ByteArray).size ≤ 20; omega)
  obtain ⟨g1, g2, g3⟩ := he h2
  obtain ⟨K, x, hx, hf⟩ := do_ev t (by omega) a b c hc g1 g2 g3
  have hf' : spec_l8Do.f t a b c = some x := hf K (Nat.le_refl _)
  simp only [hf', Option.bind_some]
  refine EvP.bind (long_ev x (by omega)) fun y hy => ?_
  exact EvP.ite (fun h3 => EvP.now (hy h3)) fun _ => EvP.now (by show (⟨#[]⟩ : ByteArray).size ≤ 20; omega)

theorem any_ev (s : List Int) (hs : Bytes s) (p : Int) (t : ByteArray) (ht : t.size ≤ 1000) (hp : 0 ≤ p) (hp2 : p ≤ 800000000) :
    EvP (fun k => spec_l8Any.f k s p t) (fun r => r.2.2.1.size ≤ 10 ∧ 0 ≤ r.2.2.2 ∧ r.2.2.2 ≤ p + 10) := by
  unfold spec_l8Any.f
  refine EvP.bind (num_ev s hs p _ (by omega) (by omega) (by simp) (by simp)) fun a ha => ?_
  rw [w64 (x := (t.size : Int) + 1) (by omega) (by omega)]
  refine EvP.bind (pick_ev s hs a.2 _ (by omega) (by omega) (by omega) (by omega)) fun b hb => ?_
  refine EvP.bind (of_ev s hs b.2 _ (by omega) (by omega) (by simp) (by simp)) fun c hc => ?_
  have hj : ∀ z : ByteArray, z.size ≤ 10 → EvP (fun k => spec_l8Any.j0 k s c.2 a.1 b.1 z) (fun r => r.2.2.1.size ≤ 10 ∧ 0 ≤ r.2.2.2 ∧ r.2.2.2 ≤ p + 10) := by
    intro z hz
    refine EvP.step ?_
    simp only [spec_l8Any.j0]
    refine EvP.bind (pick_ev s hs c.2 _ (by omega) (by omega) (by omega) (by omega)) fun d hd => ?_
    refine EvP.ite (fun _ => ?_) fun _ => ?_
    · refine EvP.bind (num_ev s hs d.2 _ (by omega) (by omega) (by simp) (by simp)) fun e he => EvP.now ⟨hz, by show 0 ≤ e.2; omega, by show e.2 ≤ _; omega⟩
    refine EvP.ite (fun _ => ?_) fun _ => ?_
    · refine EvP.bind (num_ev s hs d.2 _ (by omega) (by omega) (by simp) (by simp)) fun e he => EvP.now ⟨hz, by show 0 ≤ e.2; omega, by show e.2 ≤ _; omega⟩
    refine EvP.ite (fun _ => ?_) fun _ => EvP.now ⟨hz, by show 0 ≤ d.2; omega, by show d.2 ≤ _; omega⟩
    refine EvP.bind (of_ev s hs d.2 _ (by omega) (by omega) (by simp) (by simp)) fun e he => EvP.now ⟨?_, by show 0 ≤ e.2; omega, by show e.2 ≤ _; omega⟩
    show e.1.size ≤ 10
    obtain ⟨he, _⟩ := he
    generalize e.1 = y at he
    simp at he
    rcases he with rfl | rfl | rfl | rfl <;> decide
  refine EvP.ite (fun _ => hj _ (Nat.zero_le _)) fun _ => hj _ ?_
  obtain ⟨hc, _⟩ := hc
  generalize c.1 = y at hc
  simp at hc
  rcases hc with rfl | rfl | rfl | rfl | rfl <;> decide

end Go.Proofs.YtilogmimbdpnbaaDoor.DFnEditsDo
