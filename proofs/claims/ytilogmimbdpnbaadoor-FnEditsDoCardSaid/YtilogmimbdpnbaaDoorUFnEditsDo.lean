/- What the program's EditBack answers: the edit that takes an edit back; that it does. -/
import Derived.Test.YtilogmimbdpnbaaDoorSFnEditsDo
namespace Go.Proofs.YtilogmimbdpnbaaDoor.DFnEditsDo
open Go.RowKit Go.Proofs.YtilogmimbdpnbaaDoor.PFnEditsDo Go.Proofs.YtilogmimbdpnbaaDoorW.PrintWords Go.Proofs.YtilogmimbdpnbaaDoorW.PrintLast Go.Proofs.YtilogmimbdpnbaaDoor.Ev
set_option linter.unusedVariables false
set_option linter.unusedSimpArgs false

/-- What takes an edit back. -/
def bkK (a : Int) : Int := if a = 1 then 2 else if a = 2 then 1 else 3
def bkC (l : List UInt8) (a b : Int) : List UInt8 := if a = 1 then [] else (l.drop b.toNat).take 1
theorem ok_in {l : List UInt8} {a b : Int} {c : List UInt8} (h : okL l a b c = true) : 0 ≤ b ∧ b ≤ l.length ∧ (a = 1 ∨ b < l.length) ∧ (a = 1 ∨ a = 2 ∨ a = 3) ∧ smL l = true ∧ l.length ≤ 20 := by
  simp only [okL, Bool.or_eq_true, Bool.and_eq_true, decide_eq_true_eq] at h
  obtain ⟨⟨h1, h2⟩, h⟩ := h
  rcases h with (⟨⟨⟨g1, g2⟩, g3⟩, g4⟩ | ⟨⟨g1, g2⟩, g3⟩) | ⟨⟨⟨g1, g2⟩, g3⟩, g4⟩
  · exact ⟨g2.1, g2.2, .inl g1, .inl g1, h1, h2⟩
  · exact ⟨g2.1, by omega, .inr g2.2, .inr (.inl g1), h1, h2⟩
  · exact ⟨g2.1, by omega, .inr g2.2, .inr (.inr g1), h1, h2⟩
/-! taking back -/
theorem take_mid (l m r : List UInt8) : (l ++ m ++ r).take l.length = l := by simp
theorem cut_at (l : List UInt8) (n : Nat) (h : n < l.length) : ∃ x, (l.drop n).take 1 = [x] ∧ l = l.take n ++ [x] ++ l.drop (n + 1) := by
  refine ⟨l[n], ?_, ?_⟩
  · rw [List.drop_eq_getElem_cons h]; rfl
  · have := List.take_append_drop n l
    rw [List.drop_eq_getElem_cons h] at this
    rw [List.append_assoc]
    exact this.symm
theorem doL_1 (l : List UInt8) (b : Int) (c : List UInt8) : doL l 1 b c = l.take b.toNat ++ c ++ l.drop b.toNat := by unfold doL; rw [if_pos rfl]
theorem doL_n (l : List UInt8) (a b : Int) (c : List UInt8) (h : ¬ a = 1) : doL l a b c = l.take b.toNat ++ c ++ l.drop (b.toNat + 1) := by unfold doL; rw [if_neg h]
theorem sm1 {l : List UInt8} {x : UInt8} (h : smL l = true) (hx : x ∈ l) : sgL [x] = true := by
  unfold smL at h
  rw [List.all_eq_true] at h
  simp [sgL, smL, h x hx]
/-- The edit that takes an edit back is allowed behind it, and brings the text back. -/
theorem undo (l : List UInt8) (a b : Int) (c : List UInt8) (h : okL l a b c = true) :
    okL (doL l a b c) (bkK a) b (bkC l a b) = true ∧ doL (doL l a b c) (bkK a) b (bkC l a b) = l := by
  have hp := ok_parts l a b c
  rw [h] at hp
  have hp' := hp.symm
  simp only [Bool.and_eq_true, decide_eq_true_eq] at hp'
  obtain ⟨⟨⟨hs, h20⟩, he⟩, hd, hd20⟩ := hp'
  obtain ⟨g0, g1, g2, g3, g4, g5⟩ := ok_in h
  have hlen := do_len l a b c g0 g1 g2
  have hbn : b.toNat ≤ l.length := by omega
  simp only [okL, Bool.or_eq_true, Bool.and_eq_true, decide_eq_true_eq] at h
  obtain ⟨_, h⟩ := h
  rcases h with (⟨⟨⟨q1, q2⟩, q3⟩, q4⟩ | ⟨⟨q1, q2⟩, q3⟩) | ⟨⟨⟨q1, q2⟩, q3⟩, q4⟩
  · -- put in: taken out
    subst q1
    have hc := (sg_len q3).1
    have e1 : bkK 1 = 2 := rfl
    have e2 : bkC l 1 b = [] := rfl
    have e3 : doL (doL l 1 b c) 2 b [] = l := by
      rw [doL_n _ _ _ _ (by decide), doL_1]
      have t1 : (l.take b.toNat ++ c ++ l.drop b.toNat).take b.toNat = l.take b.toNat := by
        rw [List.append_assoc, List.take_append_of_le_length (by rw [List.length_take]; omega), List.take_take, Nat.min_self]
      have t2 : (l.take b.toNat ++ c ++ l.drop b.toNat).drop (b.toNat + 1) = l.drop b.toNat := by
        rw [List.drop_append_of_le_length (by rw [List.length_append, List.length_take]; omega), List.drop_eq_nil_of_le (by rw [List.length_append, List.length_take]; omega), List.nil_append]
      rw [t1, t2, List.append_nil, List.take_append_drop]
    rw [e1, e2]
    refine ⟨?_, e3⟩
    rw [ok_parts, hd, e3, hs]
    have hl1 : (doL l 1 b c).length = l.length + 1 := by rw [hlen, hc]; simp
    have hb2 : b < ((doL l 1 b c).length : Int) := by omega
    simp [edL, hd20, g0, hb2, h20]
  · -- taken out: put in
    subst q1
    have hb : b.toNat < l.length := by omega
    obtain ⟨x, hx, hlx⟩ := cut_at l b.toNat hb
    have hxm : x ∈ l := by
      have : x ∈ (l.drop b.toNat).take 1 := by rw [hx]; simp
      exact List.mem_of_mem_drop (List.mem_of_mem_take this)
    have e1 : bkK 2 = 1 := rfl
    have e2 : bkC l 2 b = [x] := by unfold bkC; rw [if_neg (by decide), hx]
    have e3 : doL (doL l 2 b c) 1 b [x] = l := by
      rw [doL_1, doL_n _ _ _ _ (by decide), q3, List.append_nil]
      have t1 : (l.take b.toNat ++ l.drop (b.toNat + 1)).take b.toNat = l.take b.toNat := by
        rw [List.take_append_of_le_length (by rw [List.length_take]; omega), List.take_take, Nat.min_self]
      have t2 : (l.take b.toNat ++ l.drop (b.toNat + 1)).drop b.toNat = l.drop (b.toNat + 1) := by
        rw [List.drop_append_of_le_length (by rw [List.length_take]; omega), List.drop_eq_nil_of_le (by rw [List.length_take]; omega), List.nil_append]
      rw [t1, t2]
      exact hlx.symm
    rw [e1, e2]
    refine ⟨?_, e3⟩
    rw [ok_parts, hd, e3, hs]
    have hl1 : (doL l 2 b c).length = l.length - 1 := by rw [hlen, q3]; simp
    have hb2 : b ≤ ((doL l 2 b c).length : Int) := by omega
    simp [edL, hd20, g0, hb2, h20, sm1 hs hxm]
  · -- turned: turned back
    subst q1
    have hc := (sg_len q3).1
    have hb : b.toNat < l.length := by omega
    obtain ⟨x, hx, hlx⟩ := cut_at l b.toNat hb
    have hxm : x ∈ l := by
      have : x ∈ (l.drop b.toNat).take 1 := by rw [hx]; simp
      exact List.mem_of_mem_drop (List.mem_of_mem_take this)
    have e1 : bkK 3 = 3 := rfl
    have e2 : bkC l 3 b = [x] := by unfold bkC; rw [if_neg (by decide), hx]
    have t1 : (l.take b.toNat ++ c ++ l.drop (b.toNat + 1)).take b.toNat = l.take b.toNat := by
      rw [List.append_assoc, List.take_append_of_le_length (by rw [List.length_take]; omega), List.take_take, Nat.min_self]
    have t2 : (l.take b.toNat ++ c ++ l.drop (b.toNat + 1)).drop (b.toNat + 1) = l.drop (b.toNat + 1) := by
      rw [List.drop_append_of_le_length (by rw [List.length_append, List.length_take]; omega), List.drop_eq_nil_of_le (by rw [List.length_append, List.length_take]; omega), List.nil_append]
    have t3 : ((l.take b.toNat ++ c ++ l.drop (b.toNat + 1)).drop b.toNat).take 1 = c := by
      rw [List.append_assoc, List.drop_append_of_le_length (by rw [List.length_take]; omega), List.drop_eq_nil_of_le (by rw [List.length_take]; omega), List.nil_append, List.take_append_of_le_length (by omega), List.take_of_length_le (by omega)]
    have e3 : doL (doL l 3 b c) 3 b [x] = l := by
      rw [doL_n _ _ _ _ (by decide), doL_n _ _ _ _ (by decide), t1, t2]
      exact hlx.symm
    rw [e1, e2]
    refine ⟨?_, e3⟩
    rw [ok_parts, hd, e3, hs]
    have hl1 : (doL l 3 b c).length = l.length := by rw [hlen, hc]; simp
    have hb2 : b < ((doL l 3 b c).length : Int) := by omega
    have hne : ¬ ((doL l 3 b c).drop b.toNat).take 1 = [x] := by
      rw [doL_n _ _ _ _ (by decide), t3]
      intro e
      exact q4 (by rw [hx, e])
    simp [edL, hd20, g0, hb2, h20, sm1 hs hxm, hne]

end Go.Proofs.YtilogmimbdpnbaaDoor.DFnEditsDo
