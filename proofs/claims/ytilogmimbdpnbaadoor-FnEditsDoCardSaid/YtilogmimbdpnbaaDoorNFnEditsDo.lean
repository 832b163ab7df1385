/- One edit is one step: the distance of a text to what comes of an edit. -/
import Derived.Test.YtilogmimbdpnbaaDoorUFnEditsDo
import Derived.Test.YtilogmimbdpnbaaDoorFFnEditsDo
namespace Go.Proofs.YtilogmimbdpnbaaDoor.DFnEditsDo
open Go.RowKit Go.Proofs.YtilogmimbdpnbaaDoor.PFnEditsDo Go.Proofs.YtilogmimbdpnbaaDoorW.PrintWords Go.Proofs.YtilogmimbdpnbaaDoorW.PrintLast Go.Proofs.YtilogmimbdpnbaaDoor.Ev Go.Proofs.YtilogmimbdpnbaaDoor.Lev
set_option linter.unusedVariables false
set_option linter.unusedSimpArgs false

/-! one edit is one step -/
theorem lev_suffix {α : Type} [DecidableEq α] (p a b : List α) : lev (p ++ a) (p ++ b) ≤ lev a b := by
  induction p with
  | nil => exact Nat.le_refl _
  | cons x p ih =>
    have := lev_sub x x (p ++ a) (p ++ b)
    rw [if_pos rfl] at this
    exact Nat.le_trans this ih
theorem near (l : List UInt8) (a b : Int) (c : List UInt8) (h : okL l a b c = true) : lev l.reverse (doL l a b c).reverse ≤ 1 := by
  obtain ⟨g0, g1, g2, g3, g4, g5⟩ := ok_in h
  simp only [okL, Bool.or_eq_true, Bool.and_eq_true, decide_eq_true_eq] at h
  obtain ⟨_, h⟩ := h
  rcases h with (⟨⟨⟨q1, q2⟩, q3⟩, q4⟩ | ⟨⟨q1, q2⟩, q3⟩) | ⟨⟨⟨q1, q2⟩, q3⟩, q4⟩
  · subst q1
    obtain ⟨y, rfl⟩ := List.length_eq_one_iff.1 (sg_len q3).1
    rw [doL_1]
    have e : l.reverse = (l.drop b.toNat).reverse ++ (l.take b.toNat).reverse := by rw [← List.reverse_append, List.take_append_drop]
    rw [e, List.append_assoc, List.reverse_append, List.reverse_append, List.append_assoc]
    refine Nat.le_trans (lev_suffix _ _ _) ?_
    have := lev_ins y (l.take b.toNat).reverse (l.take b.toNat).reverse
    rw [lev_self] at this
    simpa using this
  · subst q1
    obtain ⟨x, hx, hlx⟩ := cut_at l b.toNat (by omega)
    rw [doL_n _ _ _ _ (by decide), q3, List.append_nil]
    have e : l.reverse = (l.drop (b.toNat + 1)).reverse ++ ([x] ++ (l.take b.toNat).reverse) := by
      conv => lhs; rw [hlx]
      simp
    rw [e, List.reverse_append]
    refine Nat.le_trans (lev_suffix _ _ _) ?_
    have := lev_del x (l.take b.toNat).reverse (l.take b.toNat).reverse
    rw [lev_self] at this
    simpa using this
  · subst q1
    obtain ⟨x, hx, hlx⟩ := cut_at l b.toNat (by omega)
    obtain ⟨y, rfl⟩ := List.length_eq_one_iff.1 (sg_len q3).1
    rw [doL_n _ _ _ _ (by decide)]
    have e : l.reverse = (l.drop (b.toNat + 1)).reverse ++ ([x] ++ (l.take b.toNat).reverse) := by
      conv => lhs; rw [hlx]
      simp
    rw [e, List.append_assoc, List.reverse_append, List.reverse_append, List.append_assoc]
    refine Nat.le_trans (lev_suffix _ _ _) ?_
    have := lev_sub x y (l.take b.toNat).reverse (l.take b.toNat).reverse
    rw [lev_self] at this
    refine Nat.le_trans this ?_
    split <;> omega
theorem lev_map {α β : Type} [DecidableEq α] [DecidableEq β] (f : α → β) (hf : ∀ x y, f x = f y → x = y) (a b : List α) : lev (a.map f) (b.map f) = lev a b := by
  induction a, b using lev.induct with
  | case1 b => simp [lev_nil_left]
  | case2 a h => simp [lev_nil_right]
  | case3 x a y b h1 h2 h3 =>
    simp only [List.map_cons] at *
    rw [lev_cons, lev_cons, h1, h2, h3]
    have : (if f x = f y then 0 else 1) = (if x = y then 0 else 1) := by
      by_cases e : x = y
      · rw [if_pos e, if_pos (by rw [e])]
      · rw [if_neg e, if_neg (fun e' => e (hf _ _ e'))]
    rw [this]
theorem far_lev (a b : ByteArray) : far a b = lev a.data.toList.reverse b.data.toList.reverse := by
  unfold far bl
  rw [← List.map_reverse, ← List.map_reverse]
  refine lev_map _ (fun x y h => ?_) _ _
  apply UInt8.toNat_inj.1
  omega
theorem turned_ne (l : List UInt8) (a b : Int) (c : List UInt8) (h : okL l a b c = true) : ¬ l = doL l a b c := by
  obtain ⟨g0, g1, g2, g3, g4, g5⟩ := ok_in h
  have hlen := do_len l a b c g0 g1 g2
  simp only [okL, Bool.or_eq_true, Bool.and_eq_true, decide_eq_true_eq] at h
  obtain ⟨_, h⟩ := h
  intro e
  rw [← e] at hlen
  rcases h with (⟨⟨⟨q1, q2⟩, q3⟩, q4⟩ | ⟨⟨q1, q2⟩, q3⟩) | ⟨⟨⟨q1, q2⟩, q3⟩, q4⟩
  · rw [if_pos q1, (sg_len q3).1] at hlen; omega
  · rw [if_neg (by omega), q3] at hlen; simp at hlen; omega
  · have hc := (sg_len q3).1
    have t3 : ((l.take b.toNat ++ c ++ l.drop (b.toNat + 1)).drop b.toNat).take 1 = c := by
      rw [List.append_assoc, List.drop_append_of_le_length (by rw [List.length_take]; omega), List.drop_eq_nil_of_le (by rw [List.length_take]; omega), List.nil_append, List.take_append_of_le_length (by omega), List.take_of_length_le (by omega)]
    rw [doL_n _ _ _ _ (by omega)] at e
    rw [← e] at t3
    exact q4 t3
theorem far_one (t x : ByteArray) (a b : Int) (c : List UInt8) (h : okL t.data.toList a b c = true) (hx : x.data.toList = doL t.data.toList a b c) : far t x = 1 := by
  have h1 := near _ _ _ _ h
  rw [← hx, ← far_lev] at h1
  have h2 : ¬ far t x = 0 := by
    intro e
    have := (far_zero t x).1 e
    rw [tl, tl, hx] at this
    exact turned_ne _ _ _ _ h this
  omega

end Go.Proofs.YtilogmimbdpnbaaDoor.DFnEditsDo
