/- What the reference's EditDo answers: the same plain edit of a list of bytes; and what the program's EditBack does. -/
import Derived.Test.YtilogmimbdpnbaaDoorMFnEditsDo
namespace Go.Proofs.YtilogmimbdpnbaaDoor.DFnEditsDo
open Go.RowKit Go.Proofs.YtilogmimbdpnbaaDoor.PFnEditsDo Go.Proofs.YtilogmimbdpnbaaDoorW.PrintWords Go.Proofs.YtilogmimbdpnbaaDoorW.PrintLast Go.Proofs.YtilogmimbdpnbaaDoor.Ev
set_option linter.unusedVariables false
set_option linter.unusedSimpArgs false

theorem drop_cons (t : ByteArray) (i : Nat) (h : i < t.size) : t.data.toList.drop i = (t.data.toList[i]'(by rw [len_tl]; exact h)) :: t.data.toList.drop (i + 1) :=
  List.drop_eq_getElem_cons _
theorem long_l0v (t : ByteArray) (ht : t.size ≤ 1000000) (d : Nat) : ∀ (i : Nat), i + d = t.size →
    EvP (fun k => spec_l8Long.l0 k t (i : Int)) (fun r => r = (smL (t.data.toList.drop i) && decide (t.size ≤ 20))) := by
  induction d with
  | zero =>
    intro i hd
    refine EvP.step ?_
    simp only [spec_l8Long.l0]
    refine EvP.no (by omega) (EvP.now ?_)
    have hl := len_tl t
    rw [List.drop_eq_nil_of_le (by omega)]
    have : ((t.size : Int) ≤ 20) ↔ t.size ≤ 20 := by omega
    simp [smL, this]
  | succ d ih =>
    intro i hd
    refine EvP.step ?_
    simp only [spec_l8Long.l0]
    refine EvP.yes (by omega) (EvP.yes (by omega) ?_)
    have hb := bt_tl t i (by omega)
    have hc := drop_cons t i (by omega)
    rw [hc, hb]
    generalize (t.data.toList[i]'(by rw [len_tl]; omega)) = x
    have e1 : (x.toNat : Int) ≥ 97 ↔ 97 ≤ x.toNat := by omega
    have e2 : (x.toNat : Int) ≤ 100 ↔ x.toNat ≤ 100 := by omega
    have hv : spec_l1Small.f (x.toNat : Int) = some (smB x) := by
      unfold spec_l1Small.f smB
      by_cases h : (x.toNat : Int) ≥ 97
      · rw [if_pos h]; simp [e1.1 h, e2]
      · rw [if_neg h]; have h97 : ¬ 97 ≤ x.toNat := fun h' => h (e1.2 h')
        simp [h97]
    simp only [hv, Option.bind_some]
    refine EvP.ite (fun h => ?_) fun h => EvP.now ?_
    · rw [w64 (x := (i : Int) + 1) (by omega) (by omega)]
      refine (ih (i + 1) (by omega)).mono fun r hr => ?_
      rw [hr]
      simp [smL, h]
    · have h' : smB x = false := by simpa using h
      simp [smL, h']
theorem long_v (t : ByteArray) (ht : t.size ≤ 1000000) : EvP (fun k => spec_l8Long.f k t) (fun r => r = (smL t.data.toList && decide (t.size ≤ 20))) := by
  unfold spec_l8Long.f
  exact long_l0v t ht t.size 0 (by omega)
theorem signS_spec (c : ByteArray) : spec_SignSmall.f c = some (sgL c.data.toList) := by
  rw [← signS_val]
  unfold spec_SignSmall.f impl_SignSmall.f impl_isIn.f spec_l1Small.f
  by_cases h : (c.size : Int) = 1
  · rw [if_pos h, if_pos h]
    by_cases h1 : (0 : Int) < c.size
    · rw [if_pos h1, if_pos h1]
    · rw [if_neg h1, if_neg h1]; rfl
  · rw [if_neg h, if_neg h]; rfl
def edL (l : List UInt8) (a b : Int) (c : List UInt8) : Bool :=
  (decide (a = 1) && decide (0 ≤ b ∧ b ≤ l.length) && sgL c) || (decide (a = 2) && decide (0 ≤ b ∧ b < l.length) && decide (c = [])) || (decide (a = 3) && decide (0 ≤ b ∧ b < l.length) && sgL c && decide ((l.drop b.toNat).take 1 ≠ c))
theorem edit_v (t : ByteArray) (a b : Int) (c : ByteArray) (ht : t.size ≤ 1000000) : spec_l8Edit.f t a b c = some (edL t.data.toList a b c.data.toList) := by
  have hT := len_tl t
  unfold spec_l8Edit.f
  simp only [signS_spec, Option.bind_some]
  by_cases h1 : a = 1
  · rw [if_pos h1]
    by_cases h2 : b ≥ 0
    · rw [if_pos h2]
      by_cases h3 : b ≤ (t.size : Int)
      · rw [if_pos h3]
        have : 0 ≤ b := h2
        simp [edL, h1, this, h3]
      · rw [if_neg h3]
        simp [edL, h1, h3]
    · rw [if_neg h2]
      have : ¬ 0 ≤ b := h2
      simp [edL, h1, this]
  · rw [if_neg h1]
    by_cases g2 : a = 2
    · rw [if_pos g2]
      by_cases h2 : b ≥ 0
      · rw [if_pos h2]
        by_cases h3 : b < (t.size : Int)
        · rw [if_pos h3, tl]
          have : 0 ≤ b := h2
          congr 1
          simp only [edL, g2, this, hT, h3]
          by_cases hc : c.data.toList = []
          · simp [hc]
          · rw [beq_eq_false_iff_ne.2 hc]; simp [hc]
        · rw [if_neg h3]
          simp [edL, g2, h3]
      · rw [if_neg h2]
        have : ¬ 0 ≤ b := h2
        simp [edL, g2, this]
    · rw [if_neg g2]
      by_cases g3 : a = 3
      · rw [if_pos g3]
        by_cases h2 : b ≥ 0
        · rw [if_pos h2]
          by_cases h3 : b < (t.size : Int)
          · rw [if_pos h3]
            have h2' : 0 ≤ b := h2
            cases hs : sgL c.data.toList with
            | true =>
              rw [if_pos rfl, w64 (x := b + 1) (by omega) (by omega), if_pos h2', if_pos (by omega), if_pos (by omega), tl, tl, at_list t b h2']
              congr 1
              simp only [edL, g3, h2', hT, h3, hs]
              by_cases hc : (t.data.toList.drop b.toNat).take 1 = c.data.toList
              · simp [hc]
              · rw [bne_iff_ne.2 hc]; simp [hc]
            | false => simp [edL, g3, hs]
          · rw [if_neg h3]
            simp [edL, g3, h3]
        · rw [if_neg h2]
          have : ¬ 0 ≤ b := h2
          simp [edL, g3, this]
      · rw [if_neg g3]
        simp [edL, h1, g2, g3]

theorem ed_in {l : List UInt8} {a b : Int} {c : List UInt8} (h : edL l a b c = true) : 0 ≤ b ∧ b ≤ l.length ∧ (a = 1 ∨ b < l.length) ∧ (c = [] ∨ sgL c = true) := by
  simp only [edL, Bool.or_eq_true, Bool.and_eq_true, decide_eq_true_eq] at h
  rcases h with (⟨⟨h1, h2⟩, h3⟩ | ⟨⟨h1, h2⟩, h3⟩) | ⟨⟨⟨h1, h2⟩, h3⟩, h4⟩
  · exact ⟨h2.1, h2.2, .inl h1, .inr h3⟩
  · exact ⟨h2.1, by omega, .inr h2.2, .inl h3⟩
  · exact ⟨h2.1, by omega, .inr h2.2, .inr h3⟩
theorem smL_app (a b : List UInt8) : smL (a ++ b) = (smL a && smL b) := by simp [smL]
theorem smL_part {l : List UInt8} (h : smL l = true) (n : Nat) : smL (l.take n) = true ∧ smL (l.drop n) = true := by
  unfold smL at *
  rw [List.all_eq_true] at *
  rw [List.all_eq_true]
  exact ⟨fun x hx => h x (List.mem_of_mem_take hx), fun x hx => h x (List.mem_of_mem_drop hx)⟩
theorem do_len (l : List UInt8) (a b : Int) (c : List UInt8) (h0 : 0 ≤ b) (h1 : b ≤ l.length) (h2 : a = 1 ∨ b < l.length) : (doL l a b c).length = l.length + c.length - (if a = 1 then 0 else 1) := by
  unfold doL
  rw [List.length_append, List.length_append, List.length_take, List.length_drop]
  split <;> omega
theorem sg_len {c : List UInt8} (h : sgL c = true) : c.length = 1 ∧ smL c = true := by
  simpa [sgL] using h
/-- What is allowed: the text is in order, the edit fits it, and what comes is in order. -/
theorem ok_parts (l : List UInt8) (a b : Int) (c : List UInt8) : okL l a b c = (smL l && decide (l.length ≤ 20) && edL l a b c && (smL (doL l a b c) && decide ((doL l a b c).length ≤ 20))) := by
  cases hs : smL l with
  | false => simp [okL, hs]
  | true =>
    by_cases h20 : l.length ≤ 20
    · cases he : edL l a b c with
      | false =>
        have : okL l a b c = false := by
          cases ho : okL l a b c with
          | false => rfl
          | true =>
            exfalso
            simp only [okL, Bool.or_eq_true, Bool.and_eq_true, decide_eq_true_eq] at ho
            simp only [edL, Bool.or_eq_false_iff, Bool.and_eq_false_iff, decide_eq_false_iff_not] at he
            obtain ⟨⟨e1, e2⟩, e3⟩ := he
            rcases ho.2 with (⟨⟨⟨h1, h2⟩, h3⟩, h4⟩ | ⟨⟨h1, h2⟩, h3⟩) | ⟨⟨⟨h1, h2⟩, h3⟩, h4⟩
            · rcases e1 with (e1 | e1) | e1
              · exact e1 h1
              · exact e1 h2
              · rw [h3] at e1; cases e1
            · rcases e2 with (e2 | e2) | e2
              · exact e2 h1
              · exact e2 h2
              · exact e2 h3
            · rcases e3 with ((e3 | e3) | e3) | e3
              · exact e3 h1
              · exact e3 h2
              · rw [h3] at e3; cases e3
              · exact e3 h4
        simp [this]
      | true =>
        obtain ⟨h0, h1, h2, h3⟩ := ed_in he
        have hl := do_len l a b c h0 h1 h2
        have hsm : smL (doL l a b c) = true := by
          unfold doL
          rw [smL_app, smL_app, (smL_part hs _).1, (smL_part hs _).2]
          rcases h3 with h3 | h3
          · rw [h3]; rfl
          · rw [(sg_len h3).2]; rfl
        rw [hsm, hl]
        simp only [edL, Bool.or_eq_true, Bool.and_eq_true, decide_eq_true_eq] at he
        rcases he with (⟨⟨g1, g2⟩, g3⟩ | ⟨⟨g1, g2⟩, g3⟩) | ⟨⟨⟨g1, g2⟩, g3⟩, g4⟩
        · have := (sg_len g3).1
          have hx : (l.length < 20) ↔ (l.length + c.length - (if a = 1 then 0 else 1) ≤ 20) := by rw [if_pos g1]; omega
          simp [okL, hs, h20, g1, g2, g3, this]
          omega
        · have e : l.length + c.length - (if a = 1 then 0 else 1) ≤ 20 := by rw [if_neg (by omega), g3]; simp; omega
          simp [okL, hs, h20, g1, g2, g3]
          omega
        · have := (sg_len g3).1
          simp [okL, hs, h20, g1, g2, g3, g4, this]
    · simp [okL, h20]

theorem specDo_ev (t : ByteArray) (a b : Int) (c : ByteArray) (ht : t.size ≤ 1000) (hc : c.size ≤ 1000) : EvP (fun k => spec_EditDo.f k t a b c) (Done t a b c) := by
  have hT := len_tl t
  have hok := ok_parts t.data.toList a b c.data.toList
  unfold spec_EditDo.f
  refine EvP.bind (long_v t (by omega)) fun x hx => ?_
  refine EvP.ite (fun h1 => ?_) fun h1 => ?_
  · rw [edit_v t a b c (by omega)]
    refine EvP.bindSome ?_
    refine EvP.ite (fun h2 => ?_) fun h2 => ?_
    · obtain ⟨g0, g1, g2, g3⟩ := ed_in h2
      rw [hT] at g1 g2
      obtain ⟨K, y, hy, hf⟩ := do_ev t (by omega) a b c hc g0 g1 g2
      have hf' : spec_l8Do.f t a b c = some y := hf K (Nat.le_refl _)
      have hyl : y.data.toList = doL t.data.toList a b c.data.toList := by
        have hf2 := hf'
        unfold spec_l8Do.f at hf2
        by_cases ha : a = 1
        · rw [if_pos ha] at hf2
          subst ha
          repeat' split at hf2
          all_goals first | (cases hf2; exact in_list t b c g0 g1) | cases hf2
        · rw [if_neg ha] at hf2
          have g4 : b < t.size := by rcases g2 with g | g; exact absurd g ha; exact g
          rw [w64 (x := b + 1) (by omega) (by omega)] at hf2
          repeat' split at hf2
          all_goals first | (cases hf2; exact out_list t a b c ha g0 g4) | cases hf2
      simp only [hf', Option.bind_some]
      refine EvP.bind (long_v y (by omega)) fun z hz => ?_
      have hyn := len_tl y
      rw [← hyn, hyl] at hz
      refine EvP.ite (fun h3 => EvP.now (done_yes ?_ hyl)) fun h3 => EvP.now (done_no ?_)
      · rw [hok, ← hz, h2, h3, hT, ← hx, h1]; rfl
      · have h3' : z = false := by simpa using h3
        rw [hok, ← hz, h3']; simp
    · refine EvP.now (done_no ?_)
      have h2' : edL t.data.toList a b c.data.toList = false := by simpa using h2
      rw [hok, h2']; simp
  · refine EvP.now (done_no ?_)
    have h1' : x = false := by simpa using h1
    rw [hok, hT, ← hx, h1']; simp
end Go.Proofs.YtilogmimbdpnbaaDoor.DFnEditsDo
