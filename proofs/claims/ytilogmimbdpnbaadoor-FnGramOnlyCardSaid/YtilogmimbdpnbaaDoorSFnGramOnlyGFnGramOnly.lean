/- YtilogmimbdpnbaaDoorSFnGramOnlyGFnGramOnly: a text of FnGramOnly's claim, out of the kit's print, cut down to what is used. -/
import Derived.Test.YtilogmimbdpnbaaDoorSFnGramOnlyRFnGramOnly
import Derived.Test.YtilogmimbdpnbaaDoorSFnGramOnlyQFnGramOnlyx11
namespace Go.Proofs.YtilogmimbdpnbaaDoor.DFnGramOnly
open Go.RowKit Go.Proofs.YtilogmimbdpnbaaDoor.PFnGramOnly Go.Proofs.YtilogmimbdpnbaaDoorW.PrintWords Go.Proofs.YtilogmimbdpnbaaDoorW.PrintLast Go.Proofs.YtilogmimbdpnbaaDoor.Ev
set_option linter.unusedVariables false
set_option linter.unusedSimpArgs false
def Gr (n m : Nat) (rs : List S42) : Prop := rs.length ≤ n ∧ ∀ x ∈ rs, x.f1.size ≤ m
theorem base_ev (a : Int) : EvP (fun _ => spec_l1Base.f a) (fun r => Gr 6 4 r.2 ∧ r.1 = (⟨#[65]⟩ : ByteArray)) := by
  unfold spec_l1Base.f
  repeat' (first | (refine EvP.now ⟨⟨by simp, ?_⟩, rfl⟩; intro x hx; simp at hx; rcases hx with rfl | rfl | rfl | rfl | rfl | rfl <;> decide) | (refine EvP.now ⟨⟨by simp, ?_⟩, rfl⟩; intro x hx; simp at hx; rcases hx with rfl | rfl | rfl | rfl | rfl <;> decide) | (refine EvP.now ⟨⟨by simp, ?_⟩, rfl⟩; intro x hx; simp at hx; rcases hx with rfl | rfl | rfl | rfl <;> decide) | (refine EvP.now ⟨⟨by simp, ?_⟩, rfl⟩; intro x hx; simp at hx; rcases hx with rfl | rfl | rfl <;> decide) | (refine EvP.now ⟨⟨by simp, ?_⟩, rfl⟩; intro x hx; simp at hx; rcases hx with rfl | rfl <;> decide) | (refine EvP.now ⟨⟨by simp, ?_⟩, rfl⟩; intro x hx; simp at hx) | (refine EvP.ite (fun _ => ?_) (fun _ => ?_)))
theorem signed_l0 (s : List Int) (hs : Bytes s) (n : Int) (hn : n ≤ 1000) (d : Nat) : ∀ (acc : ByteArray) (i p : Int), 0 ≤ i → 0 ≤ p → p + (n - i) ≤ 900000000 → p ≤ 900000000 → (n - i).toNat = d → acc.size + d ≤ 1000 →
    EvP (fun k => spec_l1Signed.l0 k n acc i s p) (fun r => r.1.size = acc.size + d ∧ r.2 = p + d) := by
  induction d with
  | zero =>
    intro acc i p hi hp hp2 hp3 hd ha
    refine EvP.step ?_
    simp only [spec_l1Signed.l0]
    exact EvP.no (by omega) (EvP.now ⟨by simp, by simp⟩)
  | succ d ih =>
    intro acc i p hi hp hp2 hp3 hd ha
    refine EvP.step ?_
    simp only [spec_l1Signed.l0]
    refine EvP.yes (by omega) ?_
    refine EvP.bind (of_ev s hs p _ hp (by omega) (by simp) (by simp)) fun a ha' => ?_
    obtain ⟨hm, hr⟩ := ha'
    have h1 : a.1.size = 1 := by
      generalize a.1 = z at hm
      simp at hm
      rcases hm with rfl | rfl | rfl | rfl | rfl | rfl | rfl | rfl | rfl <;> rfl
    refine EvP.yes (by omega) ?_
    rw [w64 (x := i + 1) (by omega) (by omega), hr]
    refine (ih (acc ++ a.1) (i + 1) (p + 1) (by omega) (by omega) (by omega) (by omega) (by omega) (by rw [ByteArray.size_append]; omega)).mono fun r hr => ?_
    rw [ByteArray.size_append] at hr
    exact ⟨by omega, by omega⟩
theorem signed_ev (s : List Int) (hs : Bytes s) (p n : Int) (hn0 : 0 ≤ n) (hn : n ≤ 900) (hp : 0 ≤ p) (hp2 : p ≤ 800000000) :
    EvP (fun k => spec_l1Signed.f k s p n) (fun r => r.1.size = n.toNat ∧ r.2 = p + n) := by
  unfold spec_l1Signed.f
  refine (signed_l0 s hs n (by omega) n.toNat _ 0 p (by omega) hp (by omega) (by omega) (by omega) (by show 0 + n.toNat ≤ 1000; omega)).mono fun r hr => ?_
  obtain ⟨h1, h2⟩ := hr
  have : (⟨#[]⟩ : ByteArray).size = 0 := rfl
  exact ⟨by omega, by omega⟩
theorem place_l0 (l : List S42) (hl : l.length ≤ 1000000) (a b : ByteArray) (d : Nat) : ∀ (i : Int), 0 ≤ i → i ≤ l.length → (l.length : Int) - i = d →
    EvP (fun k => spec_l1Place.l0 k l i a b) (fun r => -1 ≤ r ∧ r < l.length) := by
  induction d with
  | zero =>
    intro i h0 h1 hd
    refine EvP.step ?_
    simp only [spec_l1Place.l0]
    exact EvP.no (by omega) (EvP.now ⟨by omega, by omega⟩)
  | succ d ih =>
    intro i h0 h1 hd
    refine EvP.step ?_
    simp only [spec_l1Place.l0]
    refine EvP.yes (by omega) (EvP.yes h0 ?_)
    refine EvP.ite (fun _ => EvP.now ⟨by omega, by omega⟩) fun _ => ?_
    rw [w64 (x := i + 1) (by omega) (by omega)]
    exact ih (i + 1) (by omega) (by omega) (by omega)
theorem place_ev (l : List S42) (hl : l.length ≤ 1000000) (a b : ByteArray) : EvP (fun k => spec_l1Place.f k l a b) (fun r => -1 ≤ r ∧ r < l.length) := by
  unfold spec_l1Place.f
  exact place_l0 l hl a b l.length 0 (by omega) (by omega) (by omega)
theorem gram_l0 (s : List Int) (hs : Bytes s) (st : ByteArray) (d : Nat) : ∀ (n p : Int) (rs : List S42), n = d → d ≤ 10 → 0 ≤ p → p ≤ 700000000 + 10 * (10 - d) → Gr (10 - d) 4 rs →
    EvP (fun k => spec_l1Gram.l0 k n s p st rs) (fun r => r.1 = st ∧ Gr 10 4 r.2.1 ∧ 0 ≤ r.2.2 ∧ r.2.2 ≤ p + 10 * d) := by
  induction d with
  | zero =>
    intro n p rs hn hd hp hp2 hG
    refine EvP.step ?_
    simp only [spec_l1Gram.l0]
    exact EvP.no (by omega) (EvP.now ⟨rfl, hG, hp, by simp⟩)
  | succ d ih =>
    intro n p rs hn hd hp hp2 hG
    refine EvP.step ?_
    simp only [spec_l1Gram.l0]
    refine EvP.yes (by omega) ?_
    refine EvP.bind (of_ev s hs p _ hp (by omega) (by simp) (by simp)) fun a ha => ?_
    refine EvP.bind (num_ev s hs a.2 _ (by omega) (by omega) (by simp) (by simp)) fun b hb => ?_
    have hb1 : 0 ≤ b.1 ∧ b.1 ≤ 3 := by
      obtain ⟨hb, _⟩ := hb
      generalize b.1 = z at hb
      simp at hb
      omega
    refine EvP.bind (signed_ev s hs b.2 b.1 hb1.1 (by omega) (by omega) (by omega)) fun c hc => ?_
    refine EvP.bind (place_ev rs (by have := hG.1; omega) a.1 c.1) fun t ht => ?_
    rw [w64 (x := n - 1) (by omega) (by omega)]
    refine EvP.ite (fun _ => ?_) fun _ => ?_
    · refine EvP.yes (by have := hG.1; omega) ?_
      refine (ih (n - 1) c.2 _ (by omega) (by omega) (by omega) (by omega) ⟨by have := hG.1; simp; omega, fun x hx => ?_⟩).mono fun r hr => ⟨hr.1, hr.2.1, hr.2.2.1, by omega⟩
      rcases List.mem_append.1 hx with hx | hx
      · exact hG.2 x hx
      · simp at hx
        subst hx
        show c.1.size ≤ 4
        omega
    · exact (ih (n - 1) c.2 _ (by omega) (by omega) (by omega) (by omega) ⟨by have := hG.1; omega, hG.2⟩).mono fun r hr => ⟨hr.1, hr.2.1, hr.2.2.1, by omega⟩
theorem gram_ev (s : List Int) (hs : Bytes s) (p : Int) (hp : 0 ≤ p) (hp2 : p ≤ 600000000) :
    EvP (fun k => spec_l1Gram.f k s p) (fun r => r.1 = (⟨#[65]⟩ : ByteArray) ∧ Gr 10 4 r.2.1 ∧ 0 ≤ r.2.2 ∧ r.2.2 ≤ p + 102) := by
  unfold spec_l1Gram.f
  refine EvP.bind (pick_ev s hs p 5 hp (by omega) (by omega) (by omega)) fun a ha => ?_
  refine EvP.ite (fun _ => ?_) fun _ => ?_
  · refine EvP.bind (num_ev s hs a.2 _ (by omega) (by omega) (by simp) (by simp)) fun b hb => ?_
    refine EvP.bind (base_ev b.1) fun c hc => ?_
    exact EvP.now ⟨hc.2, ⟨by have := hc.1.1; show c.2.length ≤ 10; omega, hc.1.2⟩, by show 0 ≤ b.2; omega, by show b.2 ≤ p + 102; omega⟩
  · refine EvP.bind (num_ev s hs a.2 _ (by omega) (by omega) (by simp) (by simp)) fun b hb => ?_
    have hb1 : 2 ≤ b.1 ∧ b.1 ≤ 5 := by
      obtain ⟨hb, _⟩ := hb
      generalize b.1 = z at hb
      simp at hb
      omega
    refine (gram_l0 s hs _ b.1.toNat b.1 b.2 [] (by omega) (by omega) (by omega) (by omega) ⟨by simp, by simp⟩).mono fun r hr => ⟨hr.1, hr.2.1, hr.2.2.1, by omega⟩
theorem bent_l0 (s : List Int) (hs : Bytes s) (st : ByteArray) (d : Nat) : ∀ (p : Int) (rs : List S42), 9 - rs.length = d → 0 ≤ p → p ≤ 700000000 + 3 * (9 - d) → (∀ x ∈ rs, x.f1.size ≤ 5) →
    EvP (fun k => spec_l1Bent.l0 k s p st rs) (fun r => r.1 = st ∧ (r.2.1.length ≤ max rs.length 9 ∧ ∀ x ∈ r.2.1, x.f1.size ≤ 5) ∧ 0 ≤ r.2.2 ∧ r.2.2 ≤ p + 3 * d) := by
  induction d with
  | zero =>
    intro p rs hd hp hp2 hG
    refine EvP.step ?_
    simp only [spec_l1Bent.l0]
    exact EvP.no (by omega) (EvP.now ⟨rfl, ⟨by show rs.length ≤ _; omega, hG⟩, hp, by simp⟩)
  | succ d ih =>
    intro p rs hd hp hp2 hG
    refine EvP.step ?_
    simp only [spec_l1Bent.l0]
    refine EvP.yes (by omega) ?_
    refine EvP.bind (signed_ev s hs p 3 (by omega) (by omega) hp (by omega)) fun c hc => ?_
    refine EvP.yes (by omega) ?_
    refine (ih c.2 _ (by simp; omega) (by omega) (by omega) (fun x hx => ?_)).mono fun r hr => ⟨hr.1, ⟨by have := hr.2.1.1; simp at this; omega, hr.2.1.2⟩, hr.2.2.1, by omega⟩
    rcases List.mem_append.1 hx with hx | hx
    · exact hG x hx
    · simp at hx
      subst hx
      show c.1.size ≤ 5
      omega
theorem mem_set_of {α : Type} {l : List α} {i : Nat} {v x : α} (h : x ∈ l.set i v) : x ∈ l ∨ x = v := by
  rcases List.mem_or_eq_of_mem_set h with h | h
  · exact .inl h
  · exact .inr h
theorem rd_T42_mem (l : List S42) (i : Int) (h0 : 0 ≤ i) (h1 : i < l.length) : rd_T42 l i ∈ l := by
  unfold rd_T42
  rw [List.getD_eq_getElem?_getD, List.getElem?_eq_getElem (show i.toNat < l.length by omega)]
  exact List.getElem_mem _
theorem bent_ev (s : List Int) (hs : Bytes s) (p : Int) (st : ByteArray) (rs : List S42) (n : Nat) (hp : 0 ≤ p) (hp2 : p ≤ 600000000) (hn : 10 ≤ n) (hn2 : n ≤ 1000) (hG : Gr n 5 rs) :
    EvP (fun k => spec_l1Bent.f k s p st rs) (fun r => Gr (n + 1) 5 r.2.1 ∧ 0 ≤ r.2.2 ∧ r.2.2 ≤ p + 100) := by
  unfold spec_l1Bent.f
  refine EvP.bindSome ?_
  have hl := hG.1
  have hm := hG.2
  refine EvP.yes (by simp; omega) ?_
  refine EvP.bindSome ?_
  simp only [List.nil_append]
  refine EvP.bind (pick_ev s hs p 12 hp (by omega) (by omega) (by omega)) fun a ha => ?_
  have hj : ∀ b : Bool, (b = false → rs.length ≠ 0) → EvP (fun k => spec_l1Bent.j0 k (rs.length : Int) b s a.2 st rs) (fun r => Gr (n + 1) 5 r.2.1 ∧ 0 ≤ r.2.2 ∧ r.2.2 ≤ p + 100) := by
    intro b hb0
    refine EvP.step ?_
    simp only [spec_l1Bent.j0]
    refine EvP.ite (fun _ => EvP.now ⟨⟨by show rs.length ≤ _; omega, hm⟩, by show 0 ≤ a.2; omega, by show a.2 ≤ _; omega⟩) fun hb => ?_
    have hne := hb0 (by simpa using hb)
    refine EvP.bind (pick_ev s hs a.2 rs.length (by omega) (by omega) (by omega) (by omega)) fun q hq => ?_
    refine EvP.bind (pick_ev s hs q.2 5 (by omega) (by omega) (by omega) (by omega)) fun t ht => ?_
    refine EvP.ite (fun _ => ?_) fun _ => ?_
    · refine EvP.bind (of_ev s hs t.2 _ (by omega) (by omega) (by simp) (by simp)) fun u hu => ?_
      exact EvP.now ⟨⟨by show rs.length ≤ _; omega, hm⟩, by show 0 ≤ u.2; omega, by show u.2 ≤ _; omega⟩
    refine EvP.ite (fun _ => ?_) fun _ => ?_
    · refine EvP.bind (of_ev s hs t.2 _ (by omega) (by omega) (by simp) (by simp)) fun u hu => ?_
      refine EvP.yes hq.1 (EvP.yes hq.2.1 (EvP.now ⟨⟨by show (rs.set _ _).length ≤ _; simp; omega, fun x hx => ?_⟩, by show 0 ≤ u.2; omega, by show u.2 ≤ _; omega⟩))
      rcases mem_set_of hx with hx | hx
      · exact hm x hx
      · subst hx
        have h9 := hm _ (rd_T42_mem rs q.1 hq.1 hq.2.1)
        exact h9
    refine EvP.ite (fun _ => ?_) fun _ => ?_
    · refine EvP.bind (of_ev s hs t.2 _ (by omega) (by omega) (by simp) (by simp)) fun u hu => ?_
      refine EvP.yes hq.1 (EvP.yes hq.2.1 (EvP.now ⟨⟨by show (rs.set _ _).length ≤ _; simp; omega, fun x hx => ?_⟩, by show 0 ≤ u.2; omega, by show u.2 ≤ _; omega⟩))
      rcases mem_set_of hx with hx | hx
      · exact hm x hx
      · subst hx
        show u.1.size ≤ 5
        obtain ⟨hu, _⟩ := hu
        generalize u.1 = z at hu
        simp at hu
        rcases hu with rfl | rfl | rfl | rfl | rfl <;> decide
    refine EvP.ite (fun _ => ?_) fun _ => ?_
    · refine EvP.yes hq.1 (EvP.yes hq.2.1 (EvP.yes (by omega) (EvP.now ⟨⟨by show (rs ++ _).length ≤ _; simp; omega, fun x hx => ?_⟩, by show 0 ≤ t.2; omega, by show t.2 ≤ _; omega⟩)))
      rcases List.mem_append.1 hx with hx | hx
      · exact hm x hx
      · simp at hx
        subst hx
        exact hm _ (rd_T42_mem rs q.1 hq.1 hq.2.1)
    · refine (bent_l0 s hs st (9 - rs.length) t.2 rs rfl (by omega) (by omega) hm).mono fun r hr => ⟨⟨by have := hr.2.1.1; omega, hr.2.1.2⟩, hr.2.2.1, by omega⟩
  refine EvP.ite (fun _ => hj true (fun h => by cases h)) fun _ => hj _ (fun h => by simpa using h)
end Go.Proofs.YtilogmimbdpnbaaDoor.DFnGramOnly
