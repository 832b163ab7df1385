/- YtilogmimbdpnbaaDoorSFnGramOnlyPureFnGramOnly: a text of FnGramOnly's claim, out of the kit's print, cut down to what is used. -/
import Derived.Test.YtilogmimbdpnbaaDoorSFnGramOnlyKFnGramOnly
namespace Go.Proofs.YtilogmimbdpnbaaDoor.Pure
open Go.RowKit Go.Proofs.YtilogmimbdpnbaaDoor.PFnGramOnly Go.Proofs.YtilogmimbdpnbaaDoorW.PrintWords Go.Proofs.YtilogmimbdpnbaaDoorW.PrintLast Go.Proofs.YtilogmimbdpnbaaDoor.Ev Go.Proofs.YtilogmimbdpnbaaDoor.DFnGramOnly
set_option linter.unusedVariables false
set_option linter.unusedSimpArgs false
theorem rdI_drop (l : List Int) (i : Nat) (h : i < l.length) : l.drop i = rd l (i : Int) :: l.drop (i + 1) := by
  unfold rd
  rw [List.getD_eq_getElem?_getD, show ((i : Int)).toNat = i by omega, List.getElem?_eq_getElem h]
  exact List.drop_eq_getElem_cons h
theorem index_l0 (l : List Int) (hl : l.length ≤ 1000) (x : Int) (d : Nat) : ∀ i : Nat, i + d = l.length →
    EvP (fun k => slices_Index_int_int.l0 k l x (l.length : Int) (i : Int)) (fun r => decide (r ≥ 0) = decide (x ∈ l.drop i)) := by
  induction d with
  | zero =>
    intro i hd
    refine EvP.step ?_
    simp only [slices_Index_int_int.l0]
    refine EvP.no (by omega) (EvP.now ?_)
    rw [List.drop_eq_nil_of_le (by omega)]
    simp
  | succ d ih =>
    intro i hd
    refine EvP.step ?_
    simp only [slices_Index_int_int.l0]
    refine EvP.yes (by omega) (EvP.yes (by omega) (EvP.yes (by omega) ?_))
    rw [w64 (x := (i : Int) + 1) (by omega) (by omega), rdI_drop l i (by omega)]
    refine EvP.ite (fun h => EvP.now ?_) fun h => (ih (i + 1) (by omega)).mono fun r hr => ?_
    · rw [decide_eq_true (show (i : Int) ≥ 0 by omega), decide_eq_true (by rw [h]; exact List.mem_cons_self ..)]
    · rw [hr]
      congr 1
      exact propext ⟨fun h' => List.mem_cons_of_mem _ h', fun h' => by
        rcases List.mem_cons.1 h' with h' | h'
        · exact absurd h' h
        · exact h'⟩
theorem contains_v (l : List Int) (hl : l.length ≤ 1000) (x : Int) : EvP (fun k => slices_Contains_int_int.f k l x) (fun r => r = decide (x ∈ l)) := by
  unfold slices_Contains_int_int.f slices_Index_int_int.f
  refine EvP.bind (index_l0 l hl x l.length 0 (by omega)) fun t ht => EvP.now ?_
  rw [ht, List.drop_zero]
def onlyL (l : List S42) (at_ : List Int) : Nat → Nat → List S42
  | 0, _ => []
  | d + 1, i => if (i : Int) ∈ at_ then rd_T42 l (i : Int) :: onlyL l at_ d (i + 1) else onlyL l at_ d (i + 1)
theorem onlyL_sub (l : List S42) (at_ : List Int) (d : Nat) : ∀ i, i + d = l.length → (onlyL l at_ d i).Sublist (l.drop i) := by
  induction d with
  | zero => intro i hi; rw [List.drop_eq_nil_of_le (by omega)]; exact List.Sublist.refl _
  | succ d ih =>
    intro i hi
    rw [rd_drop l i (by omega), onlyL]
    split
    · exact (ih (i + 1) (by omega)).cons_cons _
    · exact (ih (i + 1) (by omega)).cons _
theorem onlyL_all (l : List S42) (at_ : List Int) (h : ∀ j : Nat, j < l.length → (j : Int) ∈ at_) (d : Nat) : ∀ i, i + d = l.length → onlyL l at_ d i = l.drop i := by
  induction d with
  | zero => intro i hi; rw [List.drop_eq_nil_of_le (by omega)]; rfl
  | succ d ih =>
    intro i hi
    rw [rd_drop l i (by omega), onlyL, if_pos (h i (by omega)), ih (i + 1) (by omega)]
theorem only_l0 (st : ByteArray) (l : List S42) (hl : l.length ≤ 1000) (at_ : List Int) (ha : at_.length ≤ 1000) (d : Nat) : ∀ (i : Nat) (acc : List S42), i + d = l.length → acc.length ≤ i →
    EvP (fun k => impl_onlyRules.l0 k at_ l (l.length : Int) (i : Int) st acc) (fun r => r = (st, acc ++ onlyL l at_ d i)) := by
  induction d with
  | zero =>
    intro i acc hd hc
    refine EvP.step ?_
    simp only [impl_onlyRules.l0]
    exact EvP.no (by omega) (EvP.now (by simp [onlyL]))
  | succ d ih =>
    intro i acc hd hc
    refine EvP.step ?_
    simp only [impl_onlyRules.l0]
    refine EvP.yes (by omega) (EvP.yes (by omega) (EvP.yes (by omega) ?_))
    rw [w64 (x := (i : Int) + 1) (by omega) (by omega)]
    refine EvP.bind (contains_v at_ ha _) fun t ht => EvP.ite (fun h => EvP.yes (by omega) ?_) fun h => ?_
    · have hm : (i : Int) ∈ at_ := by rw [h] at ht; exact of_decide_eq_true ht.symm
      refine (ih (i + 1) _ (by omega) (by simp; omega)).mono fun r hr => ?_
      rw [hr, onlyL, if_pos hm]
      simp
    · have hm : ¬ (i : Int) ∈ at_ := fun e => h (by rw [ht]; exact decide_eq_true e)
      refine (ih (i + 1) acc (by omega) (by omega)).mono fun r hr => ?_
      rw [hr, onlyL, if_neg hm]
def only (st : ByteArray) (l : List S42) (at_ : List Int) : ByteArray × List S42 := if gramOk st l = true then (st, onlyL l at_ l.length 0) else ((⟨#[]⟩ : ByteArray), [])
theorem implOnly_v (st : ByteArray) (l : List S42) (hl : Gr 1000 1000 l) (at_ : List Int) (ha : at_.length ≤ 1000) : EvP (fun k => impl_GramOnly.f k st l at_) (fun r => r = only st l at_) := by
  unfold impl_GramOnly.f
  refine EvP.bind (implOk_v st l hl) fun t ht => EvP.ite (fun h => ?_) fun h => EvP.now ?_
  · refine EvP.bind (P := fun r => r = (st, onlyL l at_ l.length 0)) ?_ fun r hr => EvP.now ?_
    · unfold impl_onlyRules.f
      exact (only_l0 st l hl.1 at_ ha l.length 0 [] (by omega) (by simp)).mono fun r hr => by rw [hr]; rfl
    · rw [hr]
      unfold only
      rw [← ht, if_pos h]
  · unfold only
    rw [← ht, if_neg h]
theorem specOnly_l1 (st : ByteArray) (l : List S42) (hl : l.length ≤ 1000) (at_ : List Int) (ha : at_.length ≤ 1000) (i : Nat) (hi : i < l.length) (acc : List S42) (hc : acc.length ≤ i) (P : ByteArray × List S42 → Prop)
    (hyes : (i : Int) ∈ at_ → EvP (fun k => spec_GramOnly.l0 k at_ ((i + 1 : Nat) : Int) st l st (acc ++ [rd_T42 l (i : Int)])) P) (hno : ¬ (i : Int) ∈ at_ → EvP (fun k => spec_GramOnly.l0 k at_ ((i + 1 : Nat) : Int) st l st acc) P) (e : Nat) : ∀ j : Nat, j + e = at_.length → ((i : Int) ∈ at_ ↔ (i : Int) ∈ at_.drop j) →
    EvP (fun k => spec_GramOnly.l1 k at_ (i : Int) (j : Int) st l st acc) P := by
  induction e with
  | zero =>
    intro j hd hm
    refine EvP.step ?_
    simp only [spec_GramOnly.l1]
    refine EvP.no (by omega) ?_
    rw [w64 (x := (i : Int) + 1) (by omega) (by omega)]
    refine hno fun h => ?_
    have := hm.1 h
    rw [List.drop_eq_nil_of_le (by omega)] at this
    cases this
  | succ e ih =>
    intro j hd hm
    refine EvP.step ?_
    simp only [spec_GramOnly.l1]
    rw [rdI_drop at_ j (by omega)] at hm
    refine EvP.yes (by omega) (EvP.yes (by omega) ?_)
    rw [w64 (x := (i : Int) + 1) (by omega) (by omega), w64 (x := (j : Int) + 1) (by omega) (by omega)]
    refine EvP.ite (fun h => EvP.yes (by omega) (EvP.yes (by omega) (EvP.yes (by omega) (hyes (hm.2 (by rw [h]; exact List.mem_cons_self ..)))))) fun h => ?_
    refine ih (j + 1) (by omega) ⟨fun h' => ?_, fun h' => hm.2 (List.mem_cons_of_mem _ h')⟩
    rcases List.mem_cons.1 (hm.1 h') with h'' | h''
    · exact absurd h''.symm h
    · exact h''
theorem specOnly_l0 (st : ByteArray) (l : List S42) (hl : l.length ≤ 1000) (at_ : List Int) (ha : at_.length ≤ 1000) (d : Nat) : ∀ (i : Nat) (acc : List S42), i + d = l.length → acc.length ≤ i →
    EvP (fun k => spec_GramOnly.l0 k at_ (i : Int) st l st acc) (fun r => r = (st, acc ++ onlyL l at_ d i)) := by
  induction d with
  | zero =>
    intro i acc hd hc
    refine EvP.step ?_
    simp only [spec_GramOnly.l0]
    exact EvP.no (by omega) (EvP.now (by simp [onlyL]))
  | succ d ih =>
    intro i acc hd hc
    refine EvP.step ?_
    simp only [spec_GramOnly.l0]
    refine EvP.yes (by omega) ?_
    refine specOnly_l1 st l hl at_ ha i (by omega) acc hc _ (fun hm => ?_) (fun hm => ?_) at_.length 0 (by omega) (by rw [List.drop_zero])
    · refine (ih (i + 1) _ (by omega) (by simp; omega)).mono fun r hr => ?_
      rw [hr, onlyL, if_pos hm]
      simp
    · refine (ih (i + 1) acc (by omega) (by omega)).mono fun r hr => ?_
      rw [hr, onlyL, if_neg hm]
theorem specOnly_v (st : ByteArray) (l : List S42) (hl : Gr 1000 1000 l) (at_ : List Int) (ha : at_.length ≤ 1000) : EvP (fun k => spec_GramOnly.f k st l at_) (fun r => r = only st l at_) := by
  unfold spec_GramOnly.f
  refine EvP.bind (specOk_v st l hl) fun t ht => EvP.ite (fun h => ?_) fun h => EvP.now ?_
  · refine (specOnly_l0 st l hl.1 at_ ha l.length 0 [] (by omega) (by simp)).mono fun r hr => ?_
    rw [hr]
    unfold only
    rw [← ht, if_pos h]
    rfl
  · unfold only
    rw [← ht, if_neg h]
theorem eqR_l0 (l : List S42) (hl : l.length ≤ 1000) (d : Nat) : ∀ i : Nat, i + d = l.length → EvP (fun k => impl_Rule_70.l0 k l l (l.length : Int) (i : Int)) (fun r => r = true) := by
  induction d with
  | zero =>
    intro i hd
    refine EvP.step ?_
    simp only [impl_Rule_70.l0]
    exact EvP.no (by omega) (EvP.now rfl)
  | succ d ih =>
    intro i hd
    refine EvP.step ?_
    simp only [impl_Rule_70.l0]
    refine EvP.yes (by omega) (EvP.yes (by omega) ?_)
    have hlt : (i : Int) < (l.length : Int) := by omega
    simp only [if_pos hlt]
    rw [w64 (x := (i : Int) + 1) (by omega) (by omega)]
    exact EvP.no (by simp) (ih (i + 1) (by omega))
theorem same_v (st : ByteArray) (l : List S42) (hl : l.length ≤ 1000) : EvP (fun k => impl_GramSame.f k st l st l) (fun r => r = true) := by
  unfold impl_GramSame.f
  refine EvP.yes rfl (EvP.bind (P := fun r => r = true) ?_ fun r hr => EvP.now hr)
  unfold impl_Rule_70.f
  exact EvP.yes rfl (eqR_l0 l hl l.length 0 (by omega))
def goodR (x : S42) : Bool := isB 65 69 x.f0 && (decide ((x.f1.size : Int) ≤ 4) && sgR x.f1.data.toList)
theorem hasK_mem (l : List S42) (q : List UInt8 × List UInt8) : hasK l q = true ↔ q ∈ l.map key := by
  unfold hasK
  rw [List.any_eq_true, List.mem_map]
  exact ⟨fun ⟨x, h1, h2⟩ => ⟨x, h1, of_decide_eq_true h2⟩, fun ⟨x, h1, h2⟩ => ⟨x, h1, decide_eq_true h2⟩⟩
theorem rd_at (l : List S42) (j : Nat) (h : j < l.length) : rd_T42 l (j : Int) = l[j] := by
  unfold rd_T42
  rw [List.getD_eq_getElem?_getD, show ((j : Int)).toNat = j by omega, List.getElem?_eq_getElem h]
  rfl
theorem okFrom_of (l : List S42) (d : Nat) : ∀ i, (∀ j, i ≤ j → j < i + d → okAt l j = true) → okFrom l d i = true := by
  induction d with
  | zero => intro i _; rfl
  | succ d ih =>
    intro i h
    simp only [okFrom, Bool.and_eq_true]
    exact ⟨h i (by omega) (by omega), ih (i + 1) fun j h1 h2 => h j (by omega) (by omega)⟩
def Apart (l : List S42) : Prop := (∀ x ∈ l, goodR x = true) ∧ l.Pairwise (fun x y => key x ≠ key y)
theorem apart_of (l : List S42) (h : okFrom l l.length 0 = true) : Apart l := by
  have hat : ∀ j (hj : j < l.length), goodR l[j] = true ∧ hasK (l.take j) (key l[j]) = false := by
    intro j hj
    have h1 := okFrom_at l l.length 0 j h (by omega) (by omega)
    unfold okAt at h1
    rw [rd_at l j hj, Bool.and_eq_true] at h1
    exact ⟨h1.1, by simpa using h1.2⟩
  refine ⟨fun x hx => ?_, ?_⟩
  · obtain ⟨j, hj, rfl⟩ := List.getElem_of_mem hx
    exact (hat j hj).1
  · rw [List.pairwise_iff_getElem]
    intro i j hi hj hij e
    have h2 := (hat j hj).2
    have : hasK (l.take j) (key l[j]) = true := (hasK_mem _ _).2 (List.mem_map.2 ⟨l[i], by rw [List.mem_take_iff_getElem]; exact ⟨i, by omega, rfl⟩, e⟩)
    rw [this] at h2
    cases h2
theorem of_apart (l : List S42) (h : Apart l) : okFrom l l.length 0 = true := by
  refine okFrom_of l l.length 0 fun j _ hj => ?_
  have hj' : j < l.length := by omega
  unfold okAt
  rw [rd_at l j hj', Bool.and_eq_true]
  refine ⟨h.1 _ (List.getElem_mem hj'), ?_⟩
  cases hk : hasK (l.take j) (key l[j]) with
  | false => rfl
  | true =>
    exfalso
    obtain ⟨x, hx, e⟩ := List.mem_map.1 ((hasK_mem _ _).1 hk)
    rw [List.mem_take_iff_getElem] at hx
    obtain ⟨i, hi, rfl⟩ := hx
    exact (List.pairwise_iff_getElem.1 h.2) i j (by omega) hj' (by omega) e
theorem gramOk_sub (st : ByteArray) (l m : List S42) (hs : m.Sublist l) (h : gramOk st l = true) : gramOk st m = true := by
  simp only [gramOk, Bool.and_eq_true, decide_eq_true_eq] at h ⊢
  have hA := apart_of l h.2
  exact ⟨⟨h.1.1, Nat.le_trans hs.length_le h.1.2⟩, of_apart m ⟨fun x hx => hA.1 x (hs.subset hx), hA.2.sublist hs⟩⟩
theorem drawOnly_l0 (s : List Int) (hs : Bytes s) (d : Nat) : ∀ (n p : Int) (at_ : List Int), n = d → d ≤ 10 → 0 ≤ p → p ≤ 100000 + 10 * (10 - d) → at_.length + d ≤ 10 →
    EvP (fun k => spec_DrawGramOnly.l0 k at_ n s p) (fun r => Gr 900 900 r.2.1 ∧ r.2.2.length ≤ 1000) := by
  induction d with
  | zero =>
    intro n p at_ hn hd hp hp2 ha
    refine EvP.step ?_
    simp only [spec_DrawGramOnly.l0]
    refine EvP.no (by omega) ?_
    refine EvP.bind (gram_ev s hs p (by omega) (by omega)) fun g hg => ?_
    refine EvP.bind (bent_ev s hs g.2.2 g.1 g.2.1 10 (by omega) (by omega) (by omega) (by omega) (gr_up hg.2.1 (by omega) (by omega))) fun c hc => EvP.now ?_
    exact ⟨gr_up hc.1 (by omega) (by omega), by show at_.length ≤ 1000; omega⟩
  | succ d ih =>
    intro n p at_ hn hd hp hp2 ha
    refine EvP.step ?_
    simp only [spec_DrawGramOnly.l0]
    refine EvP.yes (by omega) ?_
    refine EvP.bind (num_ev s hs p _ hp (by omega) (by simp) (by simp)) fun b hb => ?_
    refine EvP.yes (by omega) ?_
    rw [w64 (x := n - 1) (by omega) (by omega)]
    exact ih (n - 1) b.2 _ (by omega) (by omega) (by omega) (by omega) (by simp; omega)
theorem draw_ev (s : List Int) (h : ∀ x ∈ s, (Lit.int .u8 x).wf = true) : EvP (fun k => spec_DrawGramOnly.f k s) (fun r => Gr 900 900 r.2.1 ∧ r.2.2.length ≤ 1000) := by
  unfold spec_DrawGramOnly.f
  refine EvP.bind (open_ev s h) fun a ha => ?_
  refine EvP.bind (pick_ev a.1 ha.1 a.2 5 (by omega) (by omega) (by omega) (by omega)) fun b hb => ?_
  exact drawOnly_l0 a.1 ha.1 b.1.toNat b.1 b.2 [] (by omega) (by omega) (by omega) (by omega) (by simp; omega)
theorem FnGramOnly : laws_FnGramOnly.Pure := by
  intro l0 _ _ hw
  refine EvP.rounds ?_
  unfold laws_FnGramOnly.f
  refine EvP.ite (fun _ => EvP.now rfl) fun _ => ?_
  refine EvP.bind (draw_ev l0 hw) fun g hg => ?_
  obtain ⟨st, l, at_⟩ := g
  obtain ⟨hl, ha⟩ : Gr 900 900 l ∧ at_.length ≤ 1000 := hg
  dsimp only
  have hG : Gr 1000 1000 l := gr_up hl (by omega) (by omega)
  have hn := hl.1
  refine EvP.bind (implOnly_v st l hG at_ ha) fun x hx => ?_
  refine EvP.bind (specOnly_v st l hG at_ ha) fun y hy => ?_
  subst hx
  subst hy
  have hO : (only st l at_).2.Sublist l := by
    unfold only
    split
    · simpa using onlyL_sub l at_ l.length 0 (by omega)
    · exact List.nil_sublist _
  have hOl := hO.length_le
  refine EvP.bind (same_v (only st l at_).1 (only st l at_).2 (by omega)) fun t ht => EvP.yes ht ?_
  refine EvP.bind (specOk_v st l hG) fun u hu => EvP.ite (fun h => ?_) fun h => ?_
  · have hok : gramOk st l = true := by rw [← hu, h]
    have he : only st l at_ = (st, onlyL l at_ l.length 0) := by unfold only; rw [if_pos hok]
    have hX : Gr 1000 1000 (only st l at_).2 := ⟨by omega, fun x hx => hG.2 x (hO.subset hx)⟩
    have hokX : gramOk (only st l at_).1 (only st l at_).2 = true := by
      have := gramOk_sub st l _ hO hok
      rw [he] at this ⊢
      exact this
    have h8 : ∀ (s : ByteArray) (m : List S42), gramOk s m = true → m.length ≤ 8 := by
      intro s m hm
      simp only [gramOk, Bool.and_eq_true, decide_eq_true_eq] at hm
      exact hm.1.2
    refine EvP.bind (implOk_v _ _ hX) fun v hv => EvP.yes (by rw [hv, hokX]) (EvP.yes (by omega) ?_)
    refine EvP.bind (implOnly_v st l hG _ (by simp)) fun w hw' => ?_
    have e1 : only st l ([7, 6, 5, 4, 3, 2, 1, 0] : List Int) = (st, l) := by
      unfold only
      rw [if_pos hok, onlyL_all l _ (fun j hj => by have := h8 st l hok; simp; omega) l.length 0 (by omega), List.drop_zero]
    rw [e1] at hw'
    subst hw'
    refine EvP.bind (same_v st l (by omega)) fun t2 ht2 => EvP.yes ht2 ?_
    refine EvP.bind (implOnly_v _ _ hX _ (by simp)) fun w hw' => ?_
    have e2 : only (only st l at_).1 (only st l at_).2 ([0, 1, 2, 3, 4, 5, 6, 7] : List Int) = ((only st l at_).1, (only st l at_).2) := by
      generalize (only st l at_).1 = s at hokX ⊢
      generalize (only st l at_).2 = m at hokX ⊢
      unfold only
      rw [if_pos hokX, onlyL_all m _ (fun j hj => by have := h8 s m hokX; simp; omega) m.length 0 (by omega), List.drop_zero]
    rw [e2] at hw'
    subst hw'
    exact EvP.bind (same_v _ _ (show (only st l at_).2.length ≤ 1000 by omega)) fun t3 ht3 => EvP.now ht3
  · have hno : ¬ gramOk st l = true := by rw [← hu]; exact h
    have he : only st l at_ = ((⟨#[]⟩ : ByteArray), []) := by unfold only; rw [if_neg hno]
    rw [he]
    exact EvP.bind (same_v _ _ (by simp)) fun t3 ht3 => EvP.now ht3
end Go.Proofs.YtilogmimbdpnbaaDoor.Pure
