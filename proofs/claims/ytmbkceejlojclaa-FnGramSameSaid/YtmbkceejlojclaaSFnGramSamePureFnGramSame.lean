/- YtmbkceejlojclaaSFnGramSamePureFnGramSame: a text of FnGramSame's claim, out of the kit's print, cut down to what is used. -/
import Derived.Test.YtmbkceejlojclaaSFnGramSamex7
import Derived.Test.YtmbkceejlojclaaSFnGramSameDFnGramSame
namespace Go.Proofs.Ytmbkceejlojclaa.Pure
open Go.RowKit Go.Proofs.Ytmbkceejlojclaa.PFnGramSame Go.Proofs.YtmbkceejlojclaaW.PrintWords Go.Proofs.YtmbkceejlojclaaW.PrintLast Go.Proofs.Ytmbkceejlojclaa.Ev Go.Proofs.Ytmbkceejlojclaa.DFnGramSame
set_option linter.unusedVariables false
set_option linter.unusedSimpArgs false
def key (x : S32) : List UInt8 × List UInt8 := (x.f0.toList, x.f1.toList)
theorem rd_drop (l : List S32) (i : Int) (h0 : 0 ≤ i) (h1 : i < l.length) : l.drop i.toNat = rd_T32 l i :: l.drop (i + 1).toNat := by
  have h : i.toNat < l.length := by omega
  rw [List.drop_eq_getElem_cons h, show (i + 1).toNat = i.toNat + 1 by omega]
  unfold rd_T32
  rw [List.getD_eq_getElem?_getD, List.getElem?_eq_getElem h]
  rfl
theorem drop_end (l : List S32) (i : Int) (h : (l.length : Int) ≤ i) : l.drop i.toNat = [] := List.drop_eq_nil_of_le (by omega)
theorem differ (x y : S32) : ((!(x.f0.toList == y.f0.toList) || !(x.f1.toList == y.f1.toList)) = true) ↔ ¬ key x = key y := by
  unfold key
  by_cases h : x.f0.toList = y.f0.toList <;> by_cases h' : x.f1.toList = y.f1.toList <;> simp [h, h']
theorem rule_l0 (l m : List S32) (hl : l.length = m.length) (hm : l.length ≤ 1000000) (d : Nat) : ∀ (i : Int), 0 ≤ i → i ≤ l.length → (l.length : Int) - i = d →
    EvP (fun k => impl_Rule.l0 k l m (l.length : Int) i) (fun r => r = decide ((l.drop i.toNat).map key = (m.drop i.toNat).map key)) := by
  induction d with
  | zero =>
    intro i h0 h1 hd
    refine EvP.step ?_
    simp only [impl_Rule.l0]
    refine EvP.no (by omega) (EvP.now ?_)
    rw [drop_end l i (by omega), drop_end m i (by omega)]
    rfl
  | succ d ih =>
    intro i h0 h1 hd
    refine EvP.step ?_
    simp only [impl_Rule.l0]
    refine EvP.yes (by omega) (EvP.yes h0 (EvP.yes (by omega) (EvP.yes (by omega) ?_)))
    rw [rd_drop l i h0 (by omega), rd_drop m i h0 (by omega)]
    refine EvP.ite (fun h => EvP.now ?_) fun h => ?_
    · have h' := (differ _ _).1 h
      simp only [List.map_cons, List.cons.injEq, h', false_and, decide_false]
    · have h' : key (rd_T32 l i) = key (rd_T32 m i) := Classical.byContradiction fun h'' => h ((differ _ _).2 h'')
      rw [w64 (x := i + 1) (by omega) (by omega)]
      simp only [List.map_cons, List.cons.injEq, h', true_and]
      exact ih (i + 1) (by omega) (by omega) (by omega)
def same (a : ByteArray) (l : List S32) (b : ByteArray) (m : List S32) : Bool := decide (a.toList = b.toList ∧ l.map key = m.map key)
theorem same_comm (a : ByteArray) (l : List S32) (b : ByteArray) (m : List S32) : same a l b m = same b m a l := by
  unfold same
  congr 1
  exact propext ⟨fun ⟨h, k⟩ => ⟨h.symm, k.symm⟩, fun ⟨h, k⟩ => ⟨h.symm, k.symm⟩⟩
theorem same_self (a : ByteArray) (l : List S32) : same a l a l = true := by simp [same]
theorem lens_ne (l m : List S32) (h : ¬ l.length = m.length) : ¬ l.map key = m.map key := fun e => h (by have := congrArg List.length e; simpa using this)
theorem impl_same (a b : ByteArray) (l m : List S32) (hm : l.length ≤ 1000000) : EvP (fun k => impl_GramSame.f k a l b m) (fun r => r = same a l b m) := by
  unfold impl_GramSame.f
  refine EvP.ite (fun h => ?_) fun h => ?_
  · refine EvP.bind (P := fun r => r = same a l b m) ?_ fun r hr => EvP.now hr
    unfold impl_Rule.f
    refine EvP.ite (fun h' => ?_) fun h' => EvP.now ?_
    · refine (rule_l0 l m (by omega) hm l.length 0 (by omega) (by omega) (by omega)).mono fun r hr => ?_
      rw [hr]
      simp [same, h]
    · have := lens_ne l m (by omega)
      simp [same, this]
  · refine EvP.now ?_
    simp [same, h]
theorem spec_l0 (a b : ByteArray) (l m : List S32) (hl : l.length = m.length) (hm : l.length ≤ 1000000) (d : Nat) : ∀ (i : Int), 0 ≤ i → i ≤ l.length → (l.length : Int) - i = d →
    EvP (fun k => spec_GramSame.l0 k i a l b m) (fun r => r = decide ((l.drop i.toNat).map key = (m.drop i.toNat).map key)) := by
  induction d with
  | zero =>
    intro i h0 h1 hd
    refine EvP.step ?_
    simp only [spec_GramSame.l0]
    refine EvP.no (by omega) (EvP.now ?_)
    rw [drop_end l i (by omega), drop_end m i (by omega)]
    rfl
  | succ d ih =>
    intro i h0 h1 hd
    refine EvP.step ?_
    simp only [spec_GramSame.l0]
    refine EvP.yes (by omega) (EvP.yes h0 (EvP.yes (by omega) ?_))
    rw [rd_drop l i h0 (by omega), rd_drop m i h0 (by omega)]
    refine EvP.ite (fun h => EvP.now ?_) fun h => ?_
    · have h' := (differ _ _).1 h
      simp only [List.map_cons, List.cons.injEq, h', false_and, decide_false]
    · have h' : key (rd_T32 l i) = key (rd_T32 m i) := Classical.byContradiction fun h'' => h ((differ _ _).2 h'')
      rw [w64 (x := i + 1) (by omega) (by omega)]
      simp only [List.map_cons, List.cons.injEq, h', true_and]
      exact ih (i + 1) (by omega) (by omega) (by omega)
theorem spec_same (a b : ByteArray) (l m : List S32) (hm : l.length ≤ 1000000) : EvP (fun k => spec_GramSame.f k a l b m) (fun r => r = same a l b m) := by
  unfold spec_GramSame.f
  have hj : ∀ c : Bool, (c = true → ¬ (a.toList = b.toList ∧ l.map key = m.map key)) → (c = false → a.toList = b.toList ∧ l.length = m.length) →
      EvP (fun k => spec_GramSame.j0 k c a l b m) (fun r => r = same a l b m) := by
    intro c h1 h2
    refine EvP.step ?_
    simp only [spec_GramSame.j0]
    refine EvP.ite (fun h => EvP.now ?_) fun h => ?_
    · have := h1 h
      simp [same, this]
    · obtain ⟨h3, h4⟩ := h2 (by simpa using h)
      refine (spec_l0 a b l m h4 hm l.length 0 (by omega) (by omega) (by omega)).mono fun r hr => ?_
      rw [hr]
      simp [same, h3]
  refine EvP.ite (fun h => hj _ ?_ ?_) fun h => hj _ ?_ ?_
  · intro h1 h2
    have h3 : ¬ (l.length : Int) = (m.length : Int) := by simpa using h1
    exact lens_ne l m (by omega) h2.2
  · intro h1
    exact ⟨h, by have : ((l.length : Int) = (m.length : Int)) := by simpa using h1
                 omega⟩
  · intro _ h2
    exact h h2.1
  · intro h1
    cases h1
def isB (lo hi : Int) (s : ByteArray) : Bool := decide (s.size = 1 ∧ lo ≤ bt s 0 ∧ bt s 0 ≤ hi)
theorem isIn_val (s : ByteArray) (lo hi : Int) : impl_isIn.f s lo hi = some (isB lo hi s) := by
  unfold impl_isIn.f isB
  by_cases h : (s.size : Int) = 1
  · rw [if_pos h, if_pos (show (0 : Int) < s.size by omega)]
    have h' : s.size = 1 := by omega
    by_cases h1 : bt s 0 ≥ lo
    · rw [if_pos h1]
      simp [h', h1]
    · rw [if_neg h1]
      simp [h1]
  · rw [if_neg h]
    have h' : ¬ s.size = 1 := by omega
    simp [h']
theorem implBig_val (s : ByteArray) : impl_SignBig.f s = some (isB 65 69 s) := by unfold impl_SignBig.f; rw [isIn_val]; rfl
theorem implSmall_val (s : ByteArray) : impl_SignSmall.f s = some (isB 97 100 s) := by unfold impl_SignSmall.f; rw [isIn_val]; rfl
theorem specBig_val (s : ByteArray) : spec_SignBig.f s = some (isB 65 69 s) := by
  rw [← isIn_val]
  unfold spec_SignBig.f impl_isIn.f spec_l1Big.f
  by_cases h : (s.size : Int) = 1
  · rw [if_pos h, if_pos h]
    by_cases h1 : (0 : Int) < s.size
    · rw [if_pos h1, if_pos h1]
      split <;> rfl
    · rw [if_neg h1, if_neg h1]
  · rw [if_neg h, if_neg h]
theorem specSmall_val (s : ByteArray) : spec_SignSmall.f s = some (isB 97 100 s) := by
  rw [← isIn_val]
  unfold spec_SignSmall.f impl_isIn.f spec_l1Small.f
  by_cases h : (s.size : Int) = 1
  · rw [if_pos h, if_pos h]
    by_cases h1 : (0 : Int) < s.size
    · rw [if_pos h1, if_pos h1]
      split <;> rfl
    · rw [if_neg h1, if_neg h1]
  · rw [if_neg h, if_neg h]
theorem sign_ev (s : List Int) (h : ∀ x ∈ s, (Lit.int .u8 x).wf = true) : EvP (fun k => spec_DrawSignBig.f k s) (fun _ => True) := by
  unfold spec_DrawSignBig.f
  refine EvP.bind (open_ev s h) fun a ha => ?_
  refine EvP.bind (of_ev a.1 ha.1 a.2 _ (by omega) (by omega) (by simp) (by simp)) fun b hb => EvP.now trivial
theorem gr_up {n m n' m' : Nat} {rs : List S32} (h : Gr n m rs) (hn : n ≤ n') (hm : m ≤ m') : Gr n' m' rs := ⟨Nat.le_trans h.1 hn, fun x hx => Nat.le_trans (h.2 x hx) hm⟩
theorem draw_ev (s : List Int) (h : ∀ x ∈ s, (Lit.int .u8 x).wf = true) : EvP (fun k => spec_DrawGramSame.f k s) (fun r => r.2.1.length ≤ 1000 ∧ r.2.2.2.length ≤ 1000) := by
  unfold spec_DrawGramSame.f
  refine EvP.bind (open_ev s h) fun a ha => ?_
  refine EvP.bind (gram_ev a.1 ha.1 a.2 (by omega) (by omega)) fun g hg => ?_
  refine EvP.bind (pick_ev a.1 ha.1 g.2.2 3 (by omega) (by omega) (by omega) (by omega)) fun b hb => ?_
  have hgl := hg.2.1.1
  refine EvP.ite (fun _ => ?_) fun _ => ?_
  · refine EvP.bind (gram_ev a.1 ha.1 b.2 (by omega) (by omega)) fun g2 hg2 => EvP.now ⟨?_, ?_⟩
    · show g.2.1.length ≤ 1000
      omega
    · have := hg2.2.1.1
      show g2.2.1.length ≤ 1000
      omega
  · refine EvP.bind (bent_ev a.1 ha.1 b.2 g.1 g.2.1 10 (by omega) (by omega) (by omega) (by omega) (gr_up hg.2.1 (by omega) (by omega))) fun c hc => ?_
    refine EvP.bind (bent_ev a.1 ha.1 c.2.2 c.1 c.2.1 11 (by omega) (by omega) (by omega) (by omega) hc.1) fun d hd => ?_
    refine EvP.bind (bent_ev a.1 ha.1 d.2.2 d.1 d.2.1 12 (by omega) (by omega) (by omega) (by omega) hd.1) fun e he => EvP.now ⟨?_, ?_⟩
    · show g.2.1.length ≤ 1000
      omega
    · have := he.1.1
      show e.2.1.length ≤ 1000
      omega
theorem FnGramSame : laws_FnGramSame.Pure := by
  intro l0 _ _ hw
  refine EvP.rounds ?_
  unfold laws_FnGramSame.f
  refine EvP.ite (fun _ => EvP.now rfl) fun _ => ?_
  refine EvP.bind (draw_ev l0 hw) fun g hg => ?_
  refine EvP.bind (sign_ev l0 hw) fun s _ => ?_
  refine EvP.bind (impl_same g.1 g.2.2.1 g.2.1 g.2.2.2 (by omega)) fun t ht => ?_
  refine EvP.bind (spec_same g.1 g.2.2.1 g.2.1 g.2.2.2 (by omega)) fun u hu => ?_
  refine EvP.no (by rw [ht, hu]; simp) ?_
  refine EvP.bind (impl_same g.1 g.2.2.1 g.2.1 g.2.2.2 (by omega)) fun t1 ht1 => ?_
  refine EvP.bind (impl_same g.2.2.1 g.1 g.2.2.2 g.2.1 (by omega)) fun t2 ht2 => ?_
  refine EvP.no (by rw [ht1, ht2, same_comm]; simp) ?_
  refine EvP.bind (impl_same g.1 g.1 g.2.1 g.2.1 (by omega)) fun t3 ht3 => ?_
  refine EvP.yes (by rw [ht3, same_self]) ?_
  simp only [implBig_val, specBig_val, implSmall_val, specSmall_val, Option.bind_some]
  refine EvP.no (by simp) ?_
  have e : (isB 97 100 s != isB 97 100 s) = false := by simp
  rw [e]
  refine EvP.step ?_
  simp only [laws_FnGramSame.j0]
  refine EvP.no (by simp) ?_
  refine EvP.bindSome ?_
  refine EvP.yes (by simp; omega) ?_
  refine EvP.bindSome ?_
  refine EvP.yes (by simp; omega) ?_
  refine EvP.bind (impl_same g.1 g.1 g.2.1 _ (by omega)) fun t4 ht4 => ?_
  refine EvP.no ?_ ?_
  · rw [ht4]
    have := lens_ne g.2.1 ([] ++ g.2.1 ++ [(⟨(⟨#[]⟩ : ByteArray), (⟨#[]⟩ : ByteArray)⟩ : S32)]) (by simp)
    simp only [same, this, and_false, decide_false]
    simp
  · simp only [implBig_val, implSmall_val, Option.bind_some]
    refine EvP.ite (fun h1 => EvP.now ?_) fun _ => EvP.now rfl
    unfold isB at h1 ⊢
    simp at h1 ⊢
    omega
end Go.Proofs.Ytmbkceejlojclaa.Pure
