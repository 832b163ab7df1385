/- FnEditsFar, over numbers and lists: for every two codes the law answers true. Conditions: none. -/
import Derived.Test.YtmbkceejlojclaaFFnEditsFar
import Derived.Test.YtmbkceejlojclaaTFnEditsFar
namespace Go.Proofs.Ytmbkceejlojclaa.Pure
open Go.RowKit Go.Proofs.Ytmbkceejlojclaa.PFnEditsFar Go.Proofs.YtmbkceejlojclaaW.PrintWords Go.Proofs.YtmbkceejlojclaaW.PrintLast Go.Proofs.Ytmbkceejlojclaa.Ev Go.Proofs.Ytmbkceejlojclaa.DFnEditsFar
set_option linter.unusedVariables false
set_option linter.unusedSimpArgs false

theorem min_val (x y : Int) : spec_l8Min.f x y = some (min x y) := by
  unfold spec_l8Min.f
  by_cases h : x < y
  · rw [if_pos h, Int.min_eq_left (by omega)]
  · rw [if_neg h, Int.min_eq_right (by omega)]
theorem sl1 (a b : ByteArray) (ha : a.size ≤ 1000) (hb : b.size ≤ 1000) (d : Nat) : ∀ (i : Nat), i + d = a.size →
    EvP (fun k => spec_EditsFar.l1 k a b (Row a b i (b.size + 1)) (i : Int)) (fun r => r = (far a b : Int)) := by
  induction d with
  | zero =>
    intro i hi
    refine EvP.step ?_
    simp only [spec_EditsFar.l1]
    refine EvP.no (by omega) (EvP.yes (by omega) (EvP.yes (by rw [Row_length]; omega) (EvP.now ?_)))
    rw [Row_rd a b i (b.size + 1) b.size (by omega)]
    have : i = a.size := by omega
    rw [this, L_end]
  | succ d ih =>
    intro i hi
    have hin : ∀ (e k : Nat), k + e = b.size → EvP (fun n => spec_EditsFar.l2 n a b (Row a b i (b.size + 1)) (i : Int) (Row a b (i + 1) (k + 1)) (k : Int)) (fun r => r = (far a b : Int)) := by
      intro e
      induction e with
      | zero =>
        intro k hk
        refine EvP.step ?_
        simp only [spec_EditsFar.l2]
        refine EvP.no (by omega) ?_
        rw [w64 (x := (i : Int) + 1) (by omega) (by omega), show k = b.size by omega]
        exact ih (i + 1) (by omega)
      | succ e ih2 =>
        intro k hk
        refine EvP.step ?_
        simp only [spec_EditsFar.l2]
        have hL0 := L_le a b i k (by omega) (by omega)
        have hL1 := L_le a b i (k + 1) (by omega) (by omega)
        have hL2 := L_le a b (i + 1) k (by omega) (by omega)
        have hs := L_step a b i k (by omega) (by omega)
        have e1 := Row_rd a b i (b.size + 1) k (by omega)
        have e2 := Row_rd a b i (b.size + 1) (k + 1) (by omega)
        have e3 := Row_rd a b (i + 1) (k + 1) k (by omega)
        rw [w64 (x := (k : Int) + 1) (by omega) (by omega)]
        refine EvP.yes (by omega) (EvP.yes (by omega) (EvP.yes (by rw [Row_length]; omega) (EvP.yes (by omega) (EvP.yes (by omega) ?_))))
        have hgo : ∀ v : Int, v = (L a b (i + 1) (k + 1) : Int) → EvP (fun n => spec_EditsFar.l2 n a b (Row a b i (b.size + 1)) (i : Int) (Row a b (i + 1) (k + 1) ++ [v]) ((k : Int) + 1)) (fun r => r = (far a b : Int)) := by
          intro v hv
          rw [hv, Row_succ]
          exact ih2 (k + 1) (by omega)
        have e2' : rd (Row a b i (b.size + 1)) ((k : Int) + 1) = L a b i (k + 1) := by rw [← e2]; rfl
        simp only [min_val, Option.bind_some]
        refine EvP.ite (fun h => ?_) fun h => ?_
        · refine EvP.yes (by omega) (EvP.yes (by rw [Row_length]; omega) (EvP.yes (by rw [Row_length]; omega) (EvP.yes (by rw [Row_length]; omega) (hgo _ ?_))))
          rw [e1, e2', e3, w64 (x := 1 + min (L a b i (k + 1) : Int) (L a b (i + 1) k : Int)) (by omega) (by omega)]
          rw [if_pos h] at hs
          omega
        · refine EvP.yes (by omega) (EvP.yes (by rw [Row_length]; omega) (EvP.yes (by rw [Row_length]; omega) (EvP.yes (by rw [Row_length]; omega) (hgo _ ?_))))
          rw [e1, e2', e3, w64 (x := 1 + min (L a b i (k + 1) : Int) (L a b (i + 1) k : Int)) (by omega) (by omega), w64 (x := (L a b i k : Int) + 1) (by omega) (by omega)]
          rw [if_neg h] at hs
          omega
    refine EvP.step ?_
    simp only [spec_EditsFar.l1]
    refine EvP.yes (by omega) ?_
    rw [w64 (x := (i : Int) + 1) (by omega) (by omega)]
    have h0 : ([(i : Int) + 1] : List Int) = Row a b (i + 1) (0 + 1) := by
      simp [Row, L_r0 a b (i + 1) (by omega)]
    rw [h0]
    exact hin b.size 0 (by omega)
theorem sl0 (a b : ByteArray) (ha : a.size ≤ 1000) (hb : b.size ≤ 1000) (d : Nat) : ∀ (i : Nat), i + d = b.size + 1 →
    EvP (fun k => spec_EditsFar.l0 k a b (Row a b 0 i) (i : Int)) (fun r => r = (far a b : Int)) := by
  induction d with
  | zero =>
    intro i hi
    refine EvP.step ?_
    simp only [spec_EditsFar.l0]
    refine EvP.no (by omega) ?_
    rw [show i = b.size + 1 by omega]
    exact sl1 a b ha hb a.size 0 (by omega)
  | succ d ih =>
    intro i hi
    refine EvP.step ?_
    simp only [spec_EditsFar.l0]
    refine EvP.yes (by omega) (EvP.yes (by rw [Row_length]; omega) ?_)
    rw [w64 (x := (i : Int) + 1) (by omega) (by omega)]
    have h0 := Row_succ a b 0 i
    rw [L_0 a b i (by omega)] at h0
    rw [h0]
    exact ih (i + 1) (by omega)
theorem specFar_ev (a b : ByteArray) (ha : a.size ≤ 1000) (hb : b.size ≤ 1000) : EvP (fun k => spec_EditsFar.f k a b) (fun r => r = (far a b : Int)) := by
  unfold spec_EditsFar.f
  exact sl0 a b ha hb (b.size + 1) 0 (by omega)

theorem draw_ev (s : List Int) (h : ∀ x ∈ s, (Lit.int .u8 x).wf = true) : EvP (fun k => spec_DrawEditsFar.f k s) (fun r => r.1.size ≤ 100 ∧ r.2.size ≤ 100) := by
  unfold spec_DrawEditsFar.f
  refine EvP.bind (open_ev s h) fun a ha => ?_
  refine EvP.bind (pick_ev a.1 ha.1 a.2 7 (by omega) (by omega) (by omega) (by omega)) fun b hb => ?_
  refine EvP.bind (text_ev a.1 ha.1 b.2 b.1 (by omega) (by omega) (by omega) (by omega)) fun t ht => ?_
  refine EvP.bind (pick_ev a.1 ha.1 t.2 3 (by omega) (by omega) (by omega) (by omega)) fun c hc => ?_
  refine EvP.ite (fun _ => ?_) fun _ => ?_
  · refine EvP.bind (pick_ev a.1 ha.1 c.2 7 (by omega) (by omega) (by omega) (by omega)) fun d hd => ?_
    refine EvP.bind (text_ev a.1 ha.1 d.2 d.1 (by omega) (by omega) (by omega) (by omega)) fun u hu => EvP.now ⟨?_, ?_⟩
    · show t.1.size ≤ 100; omega
    · show u.1.size ≤ 100; omega
  · refine EvP.bind (edits_ev a.1 ha.1 c.2 t.1 (by omega) (by omega) (by omega)) fun e he => ?_
    refine EvP.bind (editsDo_ev t.1 (by omega) e.1 he.2.1 (by omega)) fun u hu => ?_
    refine EvP.ite (fun _ => EvP.now ⟨?_, ?_⟩) fun _ => EvP.now ⟨?_, ?_⟩
    · show t.1.size ≤ 100; omega
    · show u.1.size ≤ 100; omega
    · show t.1.size ≤ 100; omega
    · show t.1.size ≤ 100; omega

theorem FnEditsFar : laws_FnEditsFar.Pure := by
  intro l0 l1 _ _ hw0 _ _ hw1
  refine EvP.rounds ?_
  unfold laws_FnEditsFar.f
  have hj : ∀ c : Bool, EvP (fun k => laws_FnEditsFar.j0 k l0 l1 c) (fun r => r = true) := by
    intro c
    refine EvP.step ?_
    simp only [laws_FnEditsFar.j0]
    refine EvP.ite (fun _ => EvP.now rfl) fun _ => ?_
    refine EvP.bind (draw_ev l0 hw0) fun x hx => ?_
    refine EvP.bind (draw_ev l1 hw1) fun y hy => ?_
    refine EvP.bind (implFar_ev x.1 x.2 (by omega) (by omega)) fun n hn => ?_
    refine EvP.bind (specFar_ev x.1 x.2 (by omega) (by omega)) fun m hm => ?_
    refine EvP.yes (by rw [hn, hm]) ?_
    refine EvP.bind (implFar_ev x.2 x.1 (by omega) (by omega)) fun q hq => ?_
    refine EvP.yes (by rw [hn, hq, far_symm]) ?_
    have hz := far_zero x.1 x.2
    have e : ((n == 0) != (x.1.toList == x.2.toList)) = false := by
      by_cases h : x.1.toList = x.2.toList
      · have := hz.2 h
        have hn0 : n = 0 := by omega
        simp [hn0, h]
      · have h1 : ¬ far x.1 x.2 = 0 := fun h' => h (hz.1 h')
        have hn0 : ¬ n = 0 := by omega
        have b1 : (n == 0) = false := beq_eq_false_iff_ne.2 hn0
        have b2 : (x.1.toList == x.2.toList) = false := beq_eq_false_iff_ne.2 h
        rw [b1, b2]
        rfl
    rw [e]
    refine EvP.step ?_
    simp only [laws_FnEditsFar.j1]
    refine EvP.no (by simp) ?_
    have hle := far_le x.1 x.2
    have hlast : EvP (fun k => (impl_EditsFar.f k x.1 y.1).bind fun t260 => ((impl_EditsFar.f k y.1 x.2).bind fun t261 => (some (decide (n ≤ (wrap64 (t260 + t261))))))) (fun r => r = true) := by
      refine EvP.bind (implFar_ev x.1 y.1 (by omega) (by omega)) fun u hu => ?_
      refine EvP.bind (implFar_ev y.1 x.2 (by omega) (by omega)) fun v hv => EvP.now ?_
      have h1 := far_le x.1 y.1
      have h2 := far_le y.1 x.2
      have h3 := far_tri x.1 y.1 x.2
      rw [w64 (x := u + v) (by omega) (by omega)]
      simp
      omega
    refine EvP.ite (fun _ => EvP.yes (by omega) hlast) fun _ => EvP.yes (by omega) hlast
  exact EvP.ite (fun _ => hj _) fun _ => hj _
end Go.Proofs.Ytmbkceejlojclaa.Pure
