/- YtilogmimbdpnbaaDoorSFnGramForPureFnGramFor: a text of FnGramFor's claim, out of the kit's print, cut down to what is used. -/
import Derived.Test.YtilogmimbdpnbaaDoorSFnGramForOFnGramFor
namespace Go.Proofs.YtilogmimbdpnbaaDoor.Pure
open Go.RowKit Go.Proofs.YtilogmimbdpnbaaDoor.PFnGramFor Go.Proofs.YtilogmimbdpnbaaDoorW.PrintWords Go.Proofs.YtilogmimbdpnbaaDoorW.PrintLast Go.Proofs.YtilogmimbdpnbaaDoor.Ev Go.Proofs.YtilogmimbdpnbaaDoor.DFnGramFor
set_option linter.unusedVariables false
set_option linter.unusedSimpArgs false
theorem l1For_l0 (st : ByteArray) (l : List S42) (hl : l.length ≤ 1000) (s : ByteArray) (d : Nat) : ∀ (i : Nat) (acc : List Int), i + d = l.length → acc.length ≤ i →
    EvP (fun k => spec_l1For.l0 k s acc (i : Int) st l) (fun r => r = acc ++ forL l s d i) := by
  induction d with
  | zero =>
    intro i acc hd ha
    refine EvP.step ?_
    simp only [spec_l1For.l0]
    exact EvP.no (by omega) (EvP.now (by simp [forL]))
  | succ d ih =>
    intro i acc hd ha
    refine EvP.step ?_
    simp only [spec_l1For.l0]
    refine EvP.yes (by omega) (EvP.yes (by omega) ?_)
    rw [w64 (x := (i : Int) + 1) (by omega) (by omega)]
    refine EvP.ite (fun h => EvP.yes (by omega) ?_) fun h => ?_
    · refine (ih (i + 1) _ (by omega) (by simp; omega)).mono fun r hr => ?_
      rw [hr]
      simp [forL, h]
    · refine (ih (i + 1) _ (by omega) (by omega)).mono fun r hr => ?_
      rw [hr]
      simp [forL, h]
theorem specFor_v (st : ByteArray) (l : List S42) (hl : Gr 1000 1000 l) (s : ByteArray) : EvP (fun k => spec_GramFor.f k st l s) (fun r => r = if gramOk st l = true then forL l s l.length 0 else []) := by
  unfold spec_GramFor.f
  refine EvP.bind (specOk_v st l hl) fun t ht => ?_
  refine EvP.ite (fun h => ?_) fun h => EvP.now ?_
  · refine EvP.bind (P := fun r => r = forL l s l.length 0) ?_ fun r hr => EvP.now ?_
    · unfold spec_l1For.f
      exact (l1For_l0 st l hl.1 s l.length 0 [] (by omega) (by simp)).mono fun r hr => by rw [hr]; rfl
    · rw [hr, ← ht, if_pos h]
  · rw [← ht, if_neg h]
theorem nums_l0 (a : List Int) (ha : a.length ≤ 100000) (d : Nat) : ∀ (i : Nat), i + d = a.length →
    EvP (fun k => laws_wpNums.l0 k a a (i : Int)) (fun r => r = true) := by
  induction d with
  | zero =>
    intro i hd
    refine EvP.step ?_
    simp only [laws_wpNums.l0]
    exact EvP.no (by omega) (EvP.now rfl)
  | succ d ih =>
    intro i hd
    refine EvP.step ?_
    simp only [laws_wpNums.l0]
    have hlt : (i : Int) < (a.length : Int) := by omega
    simp only [if_pos hlt, if_pos (show (0 : Int) ≤ (i : Int) by omega), if_true]
    rw [w64 (x := (i : Int) + 1) (by omega) (by omega)]
    exact ih (i + 1) (by omega)
theorem nums_v (a : List Int) (ha : a.length ≤ 100000) : EvP (fun k => laws_wpNums.f k a a) (fun r => r = true) := by
  unfold laws_wpNums.f
  exact EvP.yes rfl (nums_l0 a ha a.length 0 (by omega))
theorem draw_ev (s : List Int) (h : ∀ x ∈ s, (Lit.int .u8 x).wf = true) : EvP (fun k => spec_DrawGramFor.f k s) (fun r => Gr 1000 1000 r.2.1) := by
  unfold spec_DrawGramFor.f
  refine EvP.bind (open_ev s h) fun a ha => ?_
  refine EvP.bind (gram_ev a.1 ha.1 a.2 (by omega) (by omega)) fun g hg => ?_
  refine EvP.bind (bent_ev a.1 ha.1 g.2.2 g.1 g.2.1 10 (by omega) (by omega) (by omega) (by omega) (gr_up hg.2.1 (by omega) (by omega))) fun c hc => ?_
  refine EvP.bind (of_ev a.1 ha.1 c.2.2 _ (by omega) (by omega) (by simp) (by simp)) fun d hd => EvP.now ?_
  exact gr_up hc.1 (by omega) (by omega)
theorem big_same {a b : ByteArray} (h : a.toList = b.toList) : isB 65 69 a = isB 65 69 b := by rw [tl_inj h]
theorem law_l0 (st : ByteArray) (l : List S42) (hl : l.length ≤ 1000) (s : ByteArray) (hok : okFrom l l.length 0 = true) (d : Nat) : ∀ (i n : Nat), i + d = l.length → n ≤ i → n ≤ (forL l s l.length 0).length → (forL l s l.length 0).drop n = forL l s d i → (n = 0 ∨ isB 65 69 s = true) →
    EvP (fun k => laws_FnGramFor.l0 k s (forL l s l.length 0) (n : Int) (i : Int) st l) (fun r => r = true) := by
  induction d with
  | zero =>
    intro i n hd hn hn2 hdr hb
    refine EvP.step ?_
    simp only [laws_FnGramFor.l0]
    refine EvP.no (by omega) ?_
    have hlen : (forL l s l.length 0).length = n := by
      simp only [forL] at hdr
      have := congrArg List.length hdr
      rw [List.length_drop] at this
      simp at this
      omega
    refine EvP.yes (by omega) ?_
    refine EvP.ite (fun _ => EvP.now rfl) fun h => ?_
    rw [implBig_val]
    refine EvP.bindSome (EvP.now ?_)
    rcases hb with hb | hb
    · exact absurd (by omega) h
    · exact hb
  | succ d ih =>
    intro i n hd hn hn2 hdr hb
    refine EvP.step ?_
    simp only [laws_FnGramFor.l0]
    refine EvP.yes (by omega) (EvP.yes (by omega) ?_)
    rw [w64 (x := (i : Int) + 1) (by omega) (by omega)]
    refine EvP.ite (fun h => ?_) fun h => ?_
    · simp only [forL, if_pos h] at hdr
      have hlt : n < (forL l s l.length 0).length := by
        have := congrArg List.length hdr
        rw [List.length_drop] at this
        simp at this
        omega
      have hcons := List.drop_eq_getElem_cons hlt
      rw [hdr] at hcons
      simp only [List.cons.injEq] at hcons
      have hrd : rd (forL l s l.length 0) (n : Int) = (i : Int) := by
        unfold rd
        rw [List.getD_eq_getElem?_getD, show ((n : Int)).toNat = n by omega, List.getElem?_eq_getElem hlt]
        exact hcons.1.symm
      refine EvP.no (by omega) (EvP.yes (by omega) (EvP.yes (by omega) (EvP.yes hrd ?_)))
      rw [w64 (x := (n : Int) + 1) (by omega) (by omega)]
      refine ih (i + 1) (n + 1) (by omega) (by omega) (by omega) hcons.2.symm (.inr ?_)
      have hat := okFrom_at l l.length 0 i hok (by omega) (by omega)
      simp only [okAt, Bool.and_eq_true] at hat
      rw [← big_same h]
      exact hat.1.1
    · simp only [forL, if_neg h] at hdr
      exact ih (i + 1) n (by omega) (by omega) hn2 hdr hb
theorem FnGramFor : laws_FnGramFor.Pure := by
  intro l0 _ _ hw
  refine EvP.rounds ?_
  unfold laws_FnGramFor.f
  refine EvP.ite (fun _ => EvP.now rfl) fun _ => ?_
  refine EvP.bind (draw_ev l0 hw) fun g hg => ?_
  obtain ⟨st, l, s⟩ := g
  have hG : Gr 1000 1000 l := hg
  clear hg
  dsimp only
  have hfl := forL_len l s l.length 0
  have hn := hG.1
  refine EvP.bind (implFor_v st l hG s) fun x hx => ?_
  refine EvP.bind (specFor_v st l hG s) fun y hy => ?_
  have hxy : y = x := by rw [hx, hy]
  subst hxy
  have hyl : y.length ≤ 100000 := by
    rw [hy]
    split
    · omega
    · simp
  refine EvP.bind (nums_v y hyl) fun t ht => ?_
  refine EvP.yes ht ?_
  refine EvP.bind (specOk_v st l hG) fun u hu => ?_
  refine EvP.step ?_
  simp only [laws_FnGramFor.j0]
  refine EvP.ite (fun _ => ?_) fun h => ?_
  · refine EvP.bind (specFor_v st l hG s) fun z hz => ?_
    have : z = y := by rw [hz, hy]
    subst this
    exact EvP.bind (nums_v z hyl) fun t ht => EvP.now ht
  · have hok : gramOk st l = true := by rw [← hu]; simpa using h
    rw [hok, if_pos rfl] at hy
    rw [hy]
    simp only [gramOk, Bool.and_eq_true] at hok
    exact law_l0 st l hn s hok.2 l.length 0 0 (by omega) (by omega) (by omega) rfl (.inl rfl)
end Go.Proofs.YtilogmimbdpnbaaDoor.Pure
