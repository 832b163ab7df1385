/- FnEditBack, over numbers and lists: for every code the law answers true. Conditions: none. -/
import Derived.Test.YtilogmimbdpnbaaDoorSFnEditBack
import Derived.Test.YtilogmimbdpnbaaDoorFFnEditBack
namespace Go.Proofs.YtilogmimbdpnbaaDoor.Pure
open Go.RowKit Go.Proofs.YtilogmimbdpnbaaDoor.PFnEditBack Go.Proofs.YtilogmimbdpnbaaDoorW.PrintWords Go.Proofs.YtilogmimbdpnbaaDoorW.PrintLast Go.Proofs.YtilogmimbdpnbaaDoor.Ev Go.Proofs.YtilogmimbdpnbaaDoor.DFnEditBack Go.Proofs.YtilogmimbdpnbaaDoor.Lev
set_option linter.unusedVariables false
set_option linter.unusedSimpArgs false

/-- What takes an edit back. -/
def bkK (a : Int) : Int := if a = 1 then 2 else if a = 2 then 1 else 3
def bkC (l : List UInt8) (a b : Int) : List UInt8 := if a = 1 then [] else (l.drop b.toNat).take 1
def Backs (t : ByteArray) (a b : Int) (c : ByteArray) (r : Int × Int × ByteArray × Bool) : Prop :=
  r.2.2.2 = okL t.data.toList a b c.data.toList ∧ r.1 = (if okL t.data.toList a b c.data.toList = true then bkK a else 0) ∧ r.2.1 = (if okL t.data.toList a b c.data.toList = true then b else 0) ∧ r.2.2.1.data.toList = (if okL t.data.toList a b c.data.toList = true then bkC t.data.toList a b else [])
theorem ok_in {l : List UInt8} {a b : Int} {c : List UInt8} (h : okL l a b c = true) : 0 ≤ b ∧ b ≤ l.length ∧ (a = 1 ∨ b < l.length) ∧ (a = 1 ∨ a = 2 ∨ a = 3) ∧ smL l = true ∧ l.length ≤ 20 := by
  simp only [okL, Bool.or_eq_true, Bool.and_eq_true, decide_eq_true_eq] at h
  obtain ⟨⟨h1, h2⟩, h⟩ := h
  rcases h with (⟨⟨⟨g1, g2⟩, g3⟩, g4⟩ | ⟨⟨g1, g2⟩, g3⟩) | ⟨⟨⟨g1, g2⟩, g3⟩, g4⟩
  · exact ⟨g2.1, g2.2, .inl g1, .inl g1, h1, h2⟩
  · exact ⟨g2.1, by omega, .inr g2.2, .inr (.inl g1), h1, h2⟩
  · exact ⟨g2.1, by omega, .inr g2.2, .inr (.inr g1), h1, h2⟩
theorem backs_tail (t : ByteArray) (a b : Int) (c : ByteArray) (ht : t.size ≤ 1000) (r : ByteArray × Bool) (hr : Done t a b c r) :
    EvP (fun _ => if r.2 = true then (if a = 1 then (some (2, b, (⟨#[]⟩ : ByteArray), true)) else (if a = 2 then (if 0 ≤ b then (if b ≤ (wrap64 (b + 1)) then (if (wrap64 (b + 1)) ≤ (t.size : Int) then (some (1, b, t.extract (b : Int).toNat ((wrap64 (b + 1)) : Int).toNat, true)) else (none)) else (none)) else (none)) else (if 0 ≤ b then (if b ≤ (wrap64 (b + 1)) then (if (wrap64 (b + 1)) ≤ (t.size : Int) then (some (3, b, t.extract (b : Int).toNat ((wrap64 (b + 1)) : Int).toNat, true)) else (none)) else (none)) else (none)))) else (some (0, 0, (⟨#[]⟩ : ByteArray), false))) (Backs t a b c) := by
  have hT := len_tl t
  obtain ⟨h1, h2⟩ := hr
  refine EvP.ite (fun h => ?_) fun h => ?_
  · have hok : okL t.data.toList a b c.data.toList = true := by rw [← h1, h]
    obtain ⟨g0, g1, g2, g3, g4, g5⟩ := ok_in hok
    refine EvP.ite (fun h3 => EvP.now ?_) fun h3 => ?_
    · unfold Backs
      rw [hok]
      simp [bkK, bkC, h3]
    · have g6 : b < t.size := by rcases g2 with g | g; exact absurd g h3; rw [hT] at g; exact g
      rw [w64 (x := b + 1) (by omega) (by omega)]
      refine EvP.ite (fun h4 => ?_) fun h4 => ?_
      · refine EvP.yes g0 (EvP.yes (by omega) (EvP.yes (by omega) (EvP.now ?_)))
        unfold Backs
        rw [hok]
        simp [bkK, bkC, h4, at_list t b g0]
        omega
      · refine EvP.yes g0 (EvP.yes (by omega) (EvP.yes (by omega) (EvP.now ?_)))
        unfold Backs
        rw [hok]
        simp [bkK, bkC, h3, h4, at_list t b g0]
        omega
  · have hok : okL t.data.toList a b c.data.toList = false := by rw [← h1]; simpa using h
    refine EvP.now ?_
    unfold Backs
    rw [hok]
    simp
theorem implBack_ev (t : ByteArray) (a b : Int) (c : ByteArray) (ht : t.size ≤ 1000) (hc : c.size ≤ 1000) : EvP (fun k => impl_EditBack.f k t a b c) (Backs t a b c) := by
  unfold impl_EditBack.f
  exact EvP.bind (implDo_ev t a b c ht hc) fun r hr => backs_tail t a b c ht r hr
theorem specBack_ev (t : ByteArray) (a b : Int) (c : ByteArray) (ht : t.size ≤ 1000) (hc : c.size ≤ 1000) : EvP (fun k => spec_EditBack.f k t a b c) (Backs t a b c) := by
  unfold spec_EditBack.f
  exact EvP.bind (specDo_ev t a b c ht hc) fun r hr => backs_tail t a b c ht r hr

theorem draw_ev (s : List Int) (h : ∀ x ∈ s, (Lit.int .u8 x).wf = true) : EvP (fun k => spec_DrawEditBack.f k s) (fun r => r.1.size ≤ 100 ∧ r.2.2.2.size ≤ 100) := by
  unfold spec_DrawEditBack.f spec_DrawEditDo.f
  refine EvP.bind (P := fun r : ByteArray × Int × Int × ByteArray => r.1.size ≤ 100 ∧ r.2.2.2.size ≤ 100) ?_ fun r hr => EvP.now hr
  refine EvP.bind (open_ev s h) fun a ha => ?_
  refine EvP.bind (num_ev a.1 ha.1 a.2 _ (by omega) (by omega) (by simp) (by simp)) fun b hb => ?_
  have hb1 : 0 ≤ b.1 ∧ b.1 ≤ 20 := by
    obtain ⟨hb, _⟩ := hb
    generalize b.1 = z at hb
    simp at hb
    omega
  refine EvP.bind (text_ev a.1 ha.1 b.2 b.1 (by omega) (by omega) (by omega) (by omega)) fun t ht => ?_
  refine EvP.bind (pick_ev a.1 ha.1 t.2 20 (by omega) (by omega) (by omega) (by omega)) fun c hc => ?_
  refine EvP.ite (fun _ => ?_) fun _ => ?_
  · refine EvP.bind (of_ev a.1 ha.1 c.2 _ (by omega) (by omega) (by simp) (by simp)) fun d hd => ?_
    have hd1 : d.1.size ≤ 1 := by
      obtain ⟨hd, _⟩ := hd
      generalize d.1 = z at hd
      simp at hd
      rcases hd with rfl | rfl | rfl <;> decide
    have hsz : (t.1 ++ d.1).size ≤ 100 := by rw [ByteArray.size_append]; omega
    refine EvP.yes (by omega) ?_
    refine EvP.bind (any_ev a.1 ha.1 d.2 (t.1 ++ d.1) (by omega) (by omega) (by omega)) fun e he => EvP.now ⟨hsz, ?_⟩
    show e.2.2.1.size ≤ 100
    omega
  · refine EvP.bind (any_ev a.1 ha.1 c.2 t.1 (by omega) (by omega) (by omega)) fun e he => EvP.now ⟨?_, ?_⟩
    · show t.1.size ≤ 100
      omega
    · show e.2.2.1.size ≤ 100
      omega

/-! taking back -/
theorem take_mid (l m r : List UInt8) : (l ++ m ++ r).take l.length = l := by simp
theorem cut_at (l : List UInt8) (n : Nat) (h : n < l.length) : ∃ x, (l.drop n).take 1 = [x] ∧ l = l.take n ++ [x] ++ l.drop (n + 1) := by
  refine ⟨l[n], ?_, ?_⟩
  · rw [List.drop_eq_getElem_cons h]; rfl
  · have := List.take_append_drop n l
    rw [List.drop_eq_getElem_cons h] at this
    rw [List.append_assoc]
    exact this.symm
theorem doL_1 (l : List UInt8) (b : Int) (c : List UInt8) : doL l 1 b c = l.take b.toNat ++ c ++ l.drop b.toNat := by unfold doL; rw [if_pos rfl]
theorem doL_n (l : List UInt8) (a b : Int) (c : List UInt8) (h : ¬ a = 1) : doL l a b c = l.take b.toNat ++ c ++ l.drop (b.toNat + 1) := by unfold doL; rw [if_neg h]
theorem sm1 {l : List UInt8} {x : UInt8} (h : smL l = true) (hx : x ∈ l) : sgL [x] = true := by
  unfold smL at h
  rw [List.all_eq_true] at h
  simp [sgL, smL, h x hx]
/-- The edit that takes an edit back is allowed behind it, and brings the text back. -/
theorem undo (l : List UInt8) (a b : Int) (c : List UInt8) (h : okL l a b c = true) :
    okL (doL l a b c) (bkK a) b (bkC l a b) = true ∧ doL (doL l a b c) (bkK a) b (bkC l a b) = l := by
  have hp := ok_parts l a b c
  rw [h] at hp
  have hp' := hp.symm
  simp only [Bool.and_eq_true, decide_eq_true_eq] at hp'
  obtain ⟨⟨⟨hs, h20⟩, he⟩, hd, hd20⟩ := hp'
  obtain ⟨g0, g1, g2, g3, g4, g5⟩ := ok_in h
  have hlen := do_len l a b c g0 g1 g2
  have hbn : b.toNat ≤ l.length := by omega
  simp only [okL, Bool.or_eq_true, Bool.and_eq_true, decide_eq_true_eq] at h
  obtain ⟨_, h⟩ := h
  rcases h with (⟨⟨⟨q1, q2⟩, q3⟩, q4⟩ | ⟨⟨q1, q2⟩, q3⟩) | ⟨⟨⟨q1, q2⟩, q3⟩, q4⟩
  · -- put in: taken out
    subst q1
    have hc := (sg_len q3).1
    have e1 : bkK 1 = 2 := rfl
    have e2 : bkC l 1 b = [] := rfl
    have e3 : doL (doL l 1 b c) 2 b [] = l := by
      rw [doL_n _ _ _ _ (by decide), doL_1]
      have t1 : (l.take b.toNat ++ c ++ l.drop b.toNat).take b.toNat = l.take b.toNat := by
        rw [List.append_assoc, List.take_append_of_le_length (by rw [List.length_take]; omega), List.take_take, Nat.min_self]
      have t2 : (l.take b.toNat ++ c ++ l.drop b.toNat).drop (b.toNat + 1) = l.drop b.toNat := by
        rw [List.drop_append_of_le_length (by rw [List.length_append, List.length_take]; omega), List.drop_eq_nil_of_le (by rw [List.length_append, List.length_take]; omega), List.nil_append]
      rw [t1, t2, List.append_nil, List.take_append_drop]
    rw [e1, e2]
    refine ⟨?_, e3⟩
    rw [ok_parts, hd, e3, hs]
    have hl1 : (doL l 1 b c).length = l.length + 1 := by rw [hlen, hc]; simp
    have hb2 : b < ((doL l 1 b c).length : Int) := by omega
    simp [edL, hd20, g0, hb2, h20]
  · -- taken out: put in
    subst q1
    have hb : b.toNat < l.length := by omega
    obtain ⟨x, hx, hlx⟩ := cut_at l b.toNat hb
    have hxm : x ∈ l := by
      have : x ∈ (l.drop b.toNat).take 1 := by rw [hx]; simp
      exact List.mem_of_mem_drop (List.mem_of_mem_take this)
    have e1 : bkK 2 = 1 := rfl
    have e2 : bkC l 2 b = [x] := by unfold bkC; rw [if_neg (by decide), hx]
    have e3 : doL (doL l 2 b c) 1 b [x] = l := by
      rw [doL_1, doL_n _ _ _ _ (by decide), q3, List.append_nil]
      have t1 : (l.take b.toNat ++ l.drop (b.toNat + 1)).take b.toNat = l.take b.toNat := by
        rw [List.take_append_of_le_length (by rw [List.length_take]; omega), List.take_take, Nat.min_self]
      have t2 : (l.take b.toNat ++ l.drop (b.toNat + 1)).drop b.toNat = l.drop (b.toNat + 1) := by
        rw [List.drop_append_of_le_length (by rw [List.length_take]; omega), List.drop_eq_nil_of_le (by rw [List.length_take]; omega), List.nil_append]
      rw [t1, t2]
      exact hlx.symm
    rw [e1, e2]
    refine ⟨?_, e3⟩
    rw [ok_parts, hd, e3, hs]
    have hl1 : (doL l 2 b c).length = l.length - 1 := by rw [hlen, q3]; simp
    have hb2 : b ≤ ((doL l 2 b c).length : Int) := by omega
    simp [edL, hd20, g0, hb2, h20, sm1 hs hxm]
  · -- turned: turned back
    subst q1
    have hc := (sg_len q3).1
    have hb : b.toNat < l.length := by omega
    obtain ⟨x, hx, hlx⟩ := cut_at l b.toNat hb
    have hxm : x ∈ l := by
      have : x ∈ (l.drop b.toNat).take 1 := by rw [hx]; simp
      exact List.mem_of_mem_drop (List.mem_of_mem_take this)
    have e1 : bkK 3 = 3 := rfl
    have e2 : bkC l 3 b = [x] := by unfold bkC; rw [if_neg (by decide), hx]
    have t1 : (l.take b.toNat ++ c ++ l.drop (b.toNat + 1)).take b.toNat = l.take b.toNat := by
      rw [List.append_assoc, List.take_append_of_le_length (by rw [List.length_take]; omega), List.take_take, Nat.min_self]
    have t2 : (l.take b.toNat ++ c ++ l.drop (b.toNat + 1)).drop (b.toNat + 1) = l.drop (b.toNat + 1) := by
      rw [List.drop_append_of_le_length (by rw [List.length_append, List.length_take]; omega), List.drop_eq_nil_of_le (by rw [List.length_append, List.length_take]; omega), List.nil_append]
    have t3 : ((l.take b.toNat ++ c ++ l.drop (b.toNat + 1)).drop b.toNat).take 1 = c := by
      rw [List.append_assoc, List.drop_append_of_le_length (by rw [List.length_take]; omega), List.drop_eq_nil_of_le (by rw [List.length_take]; omega), List.nil_append, List.take_append_of_le_length (by omega), List.take_of_length_le (by omega)]
    have e3 : doL (doL l 3 b c) 3 b [x] = l := by
      rw [doL_n _ _ _ _ (by decide), doL_n _ _ _ _ (by decide), t1, t2]
      exact hlx.symm
    rw [e1, e2]
    refine ⟨?_, e3⟩
    rw [ok_parts, hd, e3, hs]
    have hl1 : (doL l 3 b c).length = l.length := by rw [hlen, hc]; simp
    have hb2 : b < ((doL l 3 b c).length : Int) := by omega
    have hne : ¬ ((doL l 3 b c).drop b.toNat).take 1 = [x] := by
      rw [doL_n _ _ _ _ (by decide), t3]
      intro e
      exact q4 (by rw [hx, e])
    simp [edL, hd20, g0, hb2, h20, sm1 hs hxm, hne]

/-! one edit is one step -/
theorem lev_suffix {α : Type} [DecidableEq α] (p a b : List α) : lev (p ++ a) (p ++ b) ≤ lev a b := by
  induction p with
  | nil => exact Nat.le_refl _
  | cons x p ih =>
    have := lev_sub x x (p ++ a) (p ++ b)
    rw [if_pos rfl] at this
    exact Nat.le_trans this ih
theorem near (l : List UInt8) (a b : Int) (c : List UInt8) (h : okL l a b c = true) : lev l.reverse (doL l a b c).reverse ≤ 1 := by
  obtain ⟨g0, g1, g2, g3, g4, g5⟩ := ok_in h
  simp only [okL, Bool.or_eq_true, Bool.and_eq_true, decide_eq_true_eq] at h
  obtain ⟨_, h⟩ := h
  rcases h with (⟨⟨⟨q1, q2⟩, q3⟩, q4⟩ | ⟨⟨q1, q2⟩, q3⟩) | ⟨⟨⟨q1, q2⟩, q3⟩, q4⟩
  · subst q1
    obtain ⟨y, rfl⟩ := List.length_eq_one_iff.1 (sg_len q3).1
    rw [doL_1]
    have e : l.reverse = (l.drop b.toNat).reverse ++ (l.take b.toNat).reverse := by rw [← List.reverse_append, List.take_append_drop]
    rw [e, List.append_assoc, List.reverse_append, List.reverse_append, List.append_assoc]
    refine Nat.le_trans (lev_suffix _ _ _) ?_
    have := lev_ins y (l.take b.toNat).reverse (l.take b.toNat).reverse
    rw [lev_self] at this
    simpa using this
  · subst q1
    obtain ⟨x, hx, hlx⟩ := cut_at l b.toNat (by omega)
    rw [doL_n _ _ _ _ (by decide), q3, List.append_nil]
    have e : l.reverse = (l.drop (b.toNat + 1)).reverse ++ ([x] ++ (l.take b.toNat).reverse) := by
      conv => lhs; rw [hlx]
      simp
    rw [e, List.reverse_append]
    refine Nat.le_trans (lev_suffix _ _ _) ?_
    have := lev_del x (l.take b.toNat).reverse (l.take b.toNat).reverse
    rw [lev_self] at this
    simpa using this
  · subst q1
    obtain ⟨x, hx, hlx⟩ := cut_at l b.toNat (by omega)
    obtain ⟨y, rfl⟩ := List.length_eq_one_iff.1 (sg_len q3).1
    rw [doL_n _ _ _ _ (by decide)]
    have e : l.reverse = (l.drop (b.toNat + 1)).reverse ++ ([x] ++ (l.take b.toNat).reverse) := by
      conv => lhs; rw [hlx]
      simp
    rw [e, List.append_assoc, List.reverse_append, List.reverse_append, List.append_assoc]
    refine Nat.le_trans (lev_suffix _ _ _) ?_
    have := lev_sub x y (l.take b.toNat).reverse (l.take b.toNat).reverse
    rw [lev_self] at this
    refine Nat.le_trans this ?_
    split <;> omega
theorem lev_map {α β : Type} [DecidableEq α] [DecidableEq β] (f : α → β) (hf : ∀ x y, f x = f y → x = y) (a b : List α) : lev (a.map f) (b.map f) = lev a b := by
  induction a, b using lev.induct with
  | case1 b => simp [lev_nil_left]
  | case2 a h => simp [lev_nil_right]
  | case3 x a y b h1 h2 h3 =>
    simp only [List.map_cons] at *
    rw [lev_cons, lev_cons, h1, h2, h3]
    have : (if f x = f y then 0 else 1) = (if x = y then 0 else 1) := by
      by_cases e : x = y
      · rw [if_pos e, if_pos (by rw [e])]
      · rw [if_neg e, if_neg (fun e' => e (hf _ _ e'))]
    rw [this]
theorem far_lev (a b : ByteArray) : far a b = lev a.data.toList.reverse b.data.toList.reverse := by
  unfold far bl
  rw [← List.map_reverse, ← List.map_reverse]
  refine lev_map _ (fun x y h => ?_) _ _
  apply UInt8.toNat_inj.1
  omega
theorem turned_ne (l : List UInt8) (a b : Int) (c : List UInt8) (h : okL l a b c = true) : ¬ l = doL l a b c := by
  obtain ⟨g0, g1, g2, g3, g4, g5⟩ := ok_in h
  have hlen := do_len l a b c g0 g1 g2
  simp only [okL, Bool.or_eq_true, Bool.and_eq_true, decide_eq_true_eq] at h
  obtain ⟨_, h⟩ := h
  intro e
  rw [← e] at hlen
  rcases h with (⟨⟨⟨q1, q2⟩, q3⟩, q4⟩ | ⟨⟨q1, q2⟩, q3⟩) | ⟨⟨⟨q1, q2⟩, q3⟩, q4⟩
  · rw [if_pos q1, (sg_len q3).1] at hlen; omega
  · rw [if_neg (by omega), q3] at hlen; simp at hlen; omega
  · have hc := (sg_len q3).1
    have t3 : ((l.take b.toNat ++ c ++ l.drop (b.toNat + 1)).drop b.toNat).take 1 = c := by
      rw [List.append_assoc, List.drop_append_of_le_length (by rw [List.length_take]; omega), List.drop_eq_nil_of_le (by rw [List.length_take]; omega), List.nil_append, List.take_append_of_le_length (by omega), List.take_of_length_le (by omega)]
    rw [doL_n _ _ _ _ (by omega)] at e
    rw [← e] at t3
    exact q4 t3
theorem far_one (t x : ByteArray) (a b : Int) (c : List UInt8) (h : okL t.data.toList a b c = true) (hx : x.data.toList = doL t.data.toList a b c) : far t x = 1 := by
  have h1 := near _ _ _ _ h
  rw [← hx, ← far_lev] at h1
  have h2 : ¬ far t x = 0 := by
    intro e
    have := (far_zero t x).1 e
    rw [tl, tl, hx] at this
    exact turned_ne _ _ _ _ h this
  omega

theorem FnEditBack : laws_FnEditBack.Pure := by
  intro l0 _ _ hw
  refine EvP.rounds ?_
  unfold laws_FnEditBack.f
  refine EvP.ite (fun _ => EvP.now rfl) fun _ => ?_
  refine EvP.bind (draw_ev l0 hw) fun g hg => ?_
  obtain ⟨t, a, b, c⟩ := g
  have ht : t.size ≤ 100 := hg.1
  have hc : c.size ≤ 100 := hg.2
  clear hg
  dsimp only
  refine EvP.bind (implDo_ev t a b c (by omega) (by omega)) fun x hx => ?_
  refine EvP.bind (specDo_ev t a b c (by omega) (by omega)) fun y hy => ?_
  refine EvP.bind (implBack_ev t a b c (by omega) (by omega)) fun u hu => ?_
  refine EvP.bind (specBack_ev t a b c (by omega) (by omega)) fun v hv => ?_
  obtain ⟨x1, x2⟩ := x
  obtain ⟨y1, y2⟩ := y
  obtain ⟨u1, u2, u3, u4⟩ := u
  obtain ⟨v1, v2, v3, v4⟩ := v
  obtain ⟨hx1, hx2⟩ := hx
  obtain ⟨hy1, hy2⟩ := hy
  obtain ⟨hu1, hu2, hu3, hu4⟩ := hu
  obtain ⟨hv1, hv2, hv3, hv4⟩ := hv
  dsimp only at *
  have e1 : x1.toList = y1.toList := by rw [tl, tl, hx2, hy2]
  have e2 : x2 = y2 := by rw [hx1, hy1]
  have e3 : u1 = v1 := by rw [hu2, hv2]
  have e4 : u2 = v2 := by rw [hu3, hv3]
  have e5 : u3.toList = v3.toList := by rw [tl, tl, hu4, hv4]
  have e6 : u4 = v4 := by rw [hu1, hv1]
  have e7 : u4 = x2 := by rw [hu1, hx1]
  refine EvP.yes e1 ?_
  refine EvP.no (by rw [e2]; simp) ?_
  refine EvP.no (by rw [e3, e4, e5]; simp) ?_
  refine EvP.no (by rw [e6]; simp) ?_
  refine EvP.no (by rw [e7]; simp) ?_
  refine EvP.step ?_
  simp only [laws_FnEditBack.j0]
  refine EvP.ite (fun h => ?_) fun h => ?_
  · refine EvP.yes e1 (EvP.yes (by rw [e2]; simp) (EvP.yes (by rw [e3, e4, e5]; simp) (EvP.yes (by rw [e6]; simp) (EvP.now ?_))))
    rw [e7]; simp
  · have hok : okL t.data.toList a b c.data.toList = true := by rw [← hx1]; simpa using h
    rw [hok] at hx2 hu2 hu3 hu4
    simp only [if_true] at hx2 hu2 hu3 hu4
    obtain ⟨w1, w2⟩ := undo _ _ _ _ hok
    have hok' := ok_in hok
    have hpp := ok_parts t.data.toList a b c.data.toList
    rw [hok] at hpp
    have hpp' := hpp.symm
    simp only [Bool.and_eq_true, decide_eq_true_eq] at hpp'
    have hxs : x1.size ≤ 20 := by rw [← len_tl x1, hx2]; exact hpp'.2.2
    have hus : u3.size ≤ 1 := by
      rw [← len_tl u3, hu4]
      unfold bkC
      split
      · simp
      · rw [List.length_take]; omega
    refine EvP.bind (implDo_ev x1 u1 u2 u3 (by omega) (by omega)) fun z hz => ?_
    obtain ⟨hz1, hz2⟩ := hz
    rw [hx2, hu2, hu3, hu4] at hz1 hz2
    rw [w1] at hz1 hz2
    simp only [if_true] at hz2
    rw [w2] at hz2
    refine EvP.yes hz1 (EvP.yes (by rw [tl, tl, hz2]) ?_)
    refine EvP.bind (implFar_ev t x1 (by omega) (by omega)) fun n hn => EvP.now ?_
    rw [hn, far_one t x1 a b c.data.toList hok hx2]
    rfl
end Go.Proofs.YtilogmimbdpnbaaDoor.Pure
