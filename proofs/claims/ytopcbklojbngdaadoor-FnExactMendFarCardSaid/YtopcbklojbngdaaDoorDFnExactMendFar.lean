/- What the reader of draws answers: they answer, and within which bounds. -/
import Derived.Test.YtopcbklojbngdaaDoorEv
import Derived.Test.YtopcbklojbngdaaDoorEqFnExactMendFar
namespace Go.Proofs.YtopcbklojbngdaaDoor.Pure
open Go Go.Proofs.YtopcbklojbngdaaDoor.Eng Go.Proofs.YtopcbklojbngdaaDoor.Eq Go.Proofs.YtopcbklojbngdaaDoor.Ev
set_option autoImplicit false
set_option linter.unusedVariables false
set_option linter.unusedSimpArgs false
set_option linter.unnecessarySimpa false

def Bytes (s : List Int) : Prop := (∀ x ∈ s, 0 ≤ x ∧ x ≤ 255) ∧ s.length ≤ 2000
/-- A reader, m draws ahead. -/
def Rd (m : Nat) (b : List Int) (p : Int) : Prop := Bytes b ∧ 0 ≤ p ∧ p + m ≤ 200000000
theorem Rd.less {m n : Nat} {b : List Int} {p : Int} (h : Rd m b p) (hn : n ≤ m) : Rd n b p := ⟨h.1, h.2.1, by have := h.2.2; omega⟩

/-! signs -/
def small (c : UInt8) : Bool := decide (97 ≤ c.toNat) && decide (c.toNat ≤ 100)
theorem l1Small_ev (c : UInt8) : EvP (fun k => spec_l1Small k ((c.toNat : Nat) : Int)) (fun r => r = small c) := by
  refine EvP.fn (fun k => spec_l1Small_eq k _) (EvP.dec (fun h => EvP.now ?_) (fun h => EvP.now ?_))
  · have h1 : 97 ≤ c.toNat := by omega
    have e : decide ((c.toNat : Int) ≤ 100) = decide (c.toNat ≤ 100) := by congr 1; exact propext ⟨fun h => by omega, fun h => by omega⟩
    rw [e]; simp [small, h1]
  · have h1 : ¬ 97 ≤ c.toNat := by omega
    simp [small, h1]
theorem drop_cons {α : Type} (l : List α) (i : Nat) (d : α) (h : i < l.length) : l.drop i = l.getD i d :: l.drop (i + 1) := by
  rw [List.drop_eq_getElem_cons h, List.getD_eq_getElem?_getD, List.getElem?_eq_getElem h]; rfl
/-! strings.Trim -/
theorem dropWhile_all {α : Type} (p : α → Bool) : ∀ l : List α, l.dropWhile p = [] ↔ l.all p = true
  | [] => by simp
  | x :: l => by
    rw [List.dropWhile_cons]
    cases h : p x with
    | true => simp only [if_true, List.all_cons, h, Bool.true_and]; exact dropWhile_all p l
    | false => simp [h]
theorem trim_nil (s c : List UInt8) : (trimE s c = []) ↔ s.all c.contains = true := by
  unfold trimE
  rw [List.reverse_eq_nil_iff, dropWhile_all, List.all_reverse, ← dropWhile_all]
  constructor
  · intro h
    have h1 := (dropWhile_all _ _).1 h
    cases hd : s.dropWhile c.contains with
    | nil => exact (dropWhile_all _ _).1 hd
    | cons x l =>
      exfalso
      have h2 : (x :: l).dropWhile c.contains = [] := hd ▸ h
      have h3 : c.contains x = false := by
        have := List.head?_dropWhile_not c.contains s
        rw [hd] at this; simpa using this
      rw [List.dropWhile_cons, h3] at h2
      simp at h2
  · intro h
    rw [(dropWhile_all _ _).2 h]; rfl
/-! grammars drawn -/
abbrev GramT := List UInt8 × List (List UInt8 × List UInt8)
/-- At most n rules, all short. -/
def Gr (n : Nat) (g : GramT) : Prop := g.1.length ≤ 5 ∧ g.2.length ≤ n ∧ ∀ x ∈ g.2, x.1.length ≤ 5 ∧ x.2.length ≤ 5
theorem mG {n : Nat} (h : n ≤ 2000000) : n < maxLenE := by unfold maxLenE; omega
theorem Gr.more {n m : Nat} {g : GramT} (h : Gr n g) (hm : n ≤ m) : Gr m g := ⟨h.1, by have := h.2.1; omega, h.2.2⟩
theorem Gr.add {n : Nat} {g : GramT} (h : Gr n g) (x : List UInt8 × List UInt8) (hx : x.1.length ≤ 5 ∧ x.2.length ≤ 5) : Gr (n + 1) (g.1, g.2 ++ [x]) :=
  ⟨h.1, by have := h.2.1; simp; omega, fun y hy => by
    rcases List.mem_append.1 hy with hy | hy
    · exact h.2.2 y hy
    · rw [List.mem_singleton.1 hy]; exact hx⟩
theorem Gr.set {n : Nat} {g : GramT} (h : Gr n g) (i : Nat) (x : List UInt8 × List UInt8) (hx : x.1.length ≤ 5 ∧ x.2.length ≤ 5) : Gr n (g.1, g.2.set i x) :=
  ⟨h.1, by have := h.2.1; simp; omega, fun y hy => by
    rcases List.mem_or_eq_of_mem_set hy with hy | hy
    · exact h.2.2 y hy
    · rw [hy]; exact hx⟩
theorem Gr.at {n : Nat} {g : GramT} (h : Gr n g) (i : Nat) (hi : i < g.2.length) : (g.2.getD i ([], [])).1.length ≤ 5 ∧ (g.2.getD i ([], [])).2.length ≤ 5 := h.2.2 _ (getD_mem _ _ _ hi)
theorem place_loop (l : List (List UInt8 × List UInt8)) (hl : l.length ≤ 1000) (x : List UInt8 × List UInt8) : ∀ (n i : Nat), i + n = l.length → EvP (fun k => spec_l1Place_L26 k l x (i : Int)) (fun r => r < 0 ↔ x ∉ l.drop i)
  | 0, i, h => by
    refine EvP.fn (fun k => spec_l1Place_L26_eq k _ _ _) (EvP.decN (by omega) (EvP.now ?_))
    rw [List.drop_eq_nil_of_le (by omega)]
    exact ⟨fun _ h => absurd h List.not_mem_nil, fun _ => by decide⟩
  | n + 1, i, h => by
    refine EvP.fn (fun k => spec_l1Place_L26_eq k _ _ _) (EvP.decY (by omega) (EvP.yes (by omega) (EvP.yes (by omega) ?_)))
    rw [Int.toNat_natCast, drop_cons l i ([], []) (by omega)]
    refine EvP.ite (fun h' => EvP.now ?_) (fun h' => ?_)
    · simp only [Bool.and_eq_true, decide_eq_true_eq] at h'
      have e : x = l.getD i ([], []) := Prod.ext h'.1.symm h'.2.symm
      exact ⟨fun h => absurd h (by omega), fun h => absurd (e ▸ List.mem_cons_self) h⟩
    · have e : ¬ x = l.getD i ([], []) := fun e => h' (by rw [← e]; simp)
      rw [w64 (by omega) (by omega)]
      refine (place_loop l hl x n (i + 1) (by omega)).mono fun r hr => ?_
      rw [hr, List.mem_cons, not_or]
      exact ⟨fun h => ⟨e, h⟩, fun h => h.2⟩
theorem place_ev (l : List (List UInt8 × List UInt8)) (hl : l.length ≤ 1000) (x y : List UInt8) : EvP (fun k => spec_l1Place k l x y) (fun r => r < 0 ↔ (x, y) ∉ l) := by
  refine EvP.fn (fun k => spec_l1Place_eq k _ _ _) ((place_loop l hl (x, y) l.length 0 (by omega)).mono fun r hr => ?_)
  rw [hr, List.drop_zero]
theorem lens {l : List (List UInt8)} {x : List UInt8} (h : x ∈ l) (hl : (l.all fun x => decide (x.length ≤ 5)) = true) : x.length ≤ 5 := of_decide_eq_true (List.all_eq_true.1 hl x h)
def signSmall (s : List UInt8) : Bool := match s with | [c] => small c | _ => false
/-! grammars that are right -/
def big (c : UInt8) : Bool := decide (65 ≤ c.toNat) && decide (c.toNat ≤ 69)
def signBig (s : List UInt8) : Bool := match s with | [c] => big c | _ => false
def sign (c : UInt8) : Bool := big c || small c
def ruleOk (x : List UInt8 × List UInt8) : Bool := signBig x.1 && (x.2.all sign && decide (x.2.length ≤ 4))
def GramOkP (g : GramT) : Prop := signBig g.1 = true ∧ g.2.length ≤ 8 ∧ ∀ j, j < g.2.length → ruleOk (g.2.getD j ([], [])) = true ∧ g.2.getD j ([], []) ∉ g.2.take j
theorem l1Big_ev (c : UInt8) : EvP (fun k => spec_l1Big k ((c.toNat : Nat) : Int)) (fun r => r = big c) := by
  refine EvP.fn (fun k => spec_l1Big_eq k _) (EvP.dec (fun h => EvP.now ?_) (fun h => EvP.now ?_))
  · have h1 : 65 ≤ c.toNat := by omega
    have e : decide ((c.toNat : Int) ≤ 69) = decide (c.toNat ≤ 69) := by congr 1; exact propext ⟨fun h => by omega, fun h => by omega⟩
    rw [e]; simp [big, h1]
  · have h1 : ¬ 65 ≤ c.toNat := by omega
    simp [big, h1]
theorem specSignBig_ev (s : List UInt8) : EvP (fun k => spec_SignBig k s) (fun r => r = signBig s) := by
  refine EvP.fn (fun k => spec_SignBig_eq k s) (EvP.dec (fun h => EvP.yes (by omega) (EvP.yes (by omega) (EvP.bind (l1Big_ev _) fun b hb => EvP.now ?_))) (fun h => EvP.now ?_))
  · match s, h with
    | [c], _ => exact hb
  · match s, h with
    | [], _ => rfl
    | [c], h => exact absurd rfl h
    | _ :: _ :: _, _ => rfl
theorem isIn_ev (s : List UInt8) (lo hi : Nat) : EvP (fun k => impl_isIn k s lo hi) (fun r => r = (match s with | [c] => decide (lo ≤ c.toNat) && decide (c.toNat ≤ hi) | _ => false)) := by
  refine EvP.fn (fun k => impl_isIn_eq k s _ _) (EvP.dec (fun h => EvP.yes (by omega) (EvP.yes (by omega) (EvP.dec (fun h1 => EvP.yes (by omega) (EvP.yes (by omega) (EvP.now ?_))) (fun h1 => EvP.now ?_)))) (fun h => EvP.now ?_))
  · match s, h with
    | [c], _ =>
      have h1 : lo ≤ c.toNat := by have : (lo : Int) ≤ (c.toNat : Int) := h1; omega
      show decide ((c.toNat : Int) ≤ (hi : Int)) = _
      have e : decide ((c.toNat : Int) ≤ (hi : Int)) = decide (c.toNat ≤ hi) := by congr 1; exact propext ⟨fun h => by omega, fun h => by omega⟩
      rw [e]; simp [h1]
  · match s, h with
    | [c], _ =>
      have h1 : ¬ lo ≤ c.toNat := by have : ¬ (lo : Int) ≤ (c.toNat : Int) := h1; omega
      simp [h1]
  · match s, h with
    | [], _ => rfl
    | [c], h => exact absurd rfl h
    | _ :: _ :: _, _ => rfl
theorem implSignBig_ev (s : List UInt8) : EvP (fun k => impl_SignBig k s) (fun r => r = signBig s) :=
  EvP.fn (fun k => impl_SignBig_eq k s) (EvP.bind (isIn_ev s 65 69) fun r hr => EvP.now (by rw [hr]; rfl))
def signs : List UInt8 := [65, 66, 67, 68, 69, 97, 98, 99, 100]
set_option maxRecDepth 100000 in
theorem sign_contains (c : UInt8) : signs.contains c = sign c := by
  have key : ∀ n : Nat, n < 256 → signs.contains (UInt8.ofNat n) = sign (UInt8.ofNat n) := by decide +kernel
  have := key c.toNat (UInt8.toNat_lt c)
  rwa [UInt8.ofNat_toNat] at this
theorem areSigns_ev (s : List UInt8) : EvP (fun k => impl_areSigns k s 4) (fun r => r = (s.all sign && decide (s.length ≤ 4))) := by
  refine EvP.fn (fun k => impl_areSigns_eq k _ _) (EvP.dec (fun h => ?_) (fun h => EvP.now ?_))
  · refine EvP.bind (P := fun r => r = trimE s signs) (EvP.fn (fun k => strings_Trim_eq k _ _) (EvP.yes ⟨by omega, by decide, by decide⟩ (EvP.now rfl))) fun r hr => EvP.now ?_
    have e : (signs.contains : UInt8 → Bool) = sign := funext sign_contains
    have h4 : s.length ≤ 4 := by omega
    have := trim_nil s signs
    rw [e] at this
    rw [hr]
    show decide (trimE s signs = []) = _
    simp only [h4, decide_true, Bool.and_true]
    cases hs : s.all sign with
    | true => exact decide_eq_true (this.2 hs)
    | false => exact decide_eq_false (fun h => by rw [this.1 h] at hs; cases hs)
  · have h4 : ¬ s.length ≤ 4 := by omega
    simp [h4]
theorem l1Right_loop (s : List UInt8) (hs : s.length ≤ 2000000) : ∀ (n i : Nat), i + n = s.length → EvP (fun k => spec_l1Right_L26 k s 4 (i : Int)) (fun r => r = ((s.drop i).all sign && decide (s.length ≤ 4)))
  | 0, i, h => by
    refine EvP.fn (fun k => spec_l1Right_L26_eq k _ _ _) (EvP.decN (by omega) (EvP.now ?_))
    have e : decide ((s.length : Int) ≤ 4) = decide (s.length ≤ 4) := by congr 1; exact propext ⟨fun h => by omega, fun h => by omega⟩
    rw [e, List.drop_eq_nil_of_le (by omega)]; simp
  | n + 1, i, h => by
    refine EvP.fn (fun k => spec_l1Right_L26_eq k _ _ _) (EvP.decY (by omega) (EvP.yes (by omega) (EvP.yes (by omega) ?_)))
    rw [Int.toNat_natCast, w64 (by omega) (by omega), drop_cons s i 0 (by omega)]
    have next := l1Right_loop s hs n (i + 1) (by omega)
    refine EvP.bind (l1Big_ev _) fun b hb => ?_
    subst hb
    cases hc : big (s.getD i 0) with
    | true =>
      refine EvP.no (by simp) (next.mono fun r hr => ?_)
      have : sign (s.getD i 0) = true := by simp only [sign, hc, Bool.true_or]
      rw [hr, List.all_cons, this, Bool.true_and]
    | false =>
      refine EvP.yes rfl (EvP.yes (by omega) (EvP.yes (by omega) (EvP.bind (l1Small_ev _) fun b hb => ?_)))
      subst hb
      have e : sign (s.getD i 0) = small (s.getD i 0) := by simp only [sign, hc, Bool.false_or]
      cases hd : small (s.getD i 0) with
      | true => exact EvP.no (by simp) (next.mono fun r hr => by rw [hr, List.all_cons, e, hd, Bool.true_and])
      | false => exact EvP.yes rfl (EvP.now (by rw [List.all_cons, e, hd]; rfl))
theorem l1Right_ev (s : List UInt8) (hs : s.length ≤ 2000000) : EvP (fun k => spec_l1Right k s 4) (fun r => r = (s.all sign && decide (s.length ≤ 4))) :=
  EvP.fn (fun k => spec_l1Right_eq k _ _) ((l1Right_loop s hs s.length 0 (by omega)).mono fun r hr => by rw [hr, List.drop_zero])
theorem indexRule_loop (l : List (List UInt8 × List UInt8)) (hl : l.length ≤ 1000) (x : List UInt8 × List UInt8) : ∀ (n i : Nat), i + n = l.length → EvP (fun k => slices_Index_Simpl_Rule_impl_Rule_L26 k l x (l.length : Int) (i : Int)) (fun r => r < 0 ↔ x ∉ l.drop i)
  | 0, i, h => by
    refine EvP.fn (fun k => slices_Index_Simpl_Rule_impl_Rule_L26_eq k _ _ _ _) (EvP.decN (by omega) (EvP.now ?_))
    rw [List.drop_eq_nil_of_le (by omega)]
    exact ⟨fun _ h => absurd h List.not_mem_nil, fun _ => by decide⟩
  | n + 1, i, h => by
    refine EvP.fn (fun k => slices_Index_Simpl_Rule_impl_Rule_L26_eq k _ _ _ _) (EvP.decY (by omega) (EvP.yes (by omega) (EvP.yes (by omega) ?_)))
    rw [Int.toNat_natCast, drop_cons l i ([], []) (by omega)]
    refine EvP.ite (fun h' => EvP.now ?_) (fun h' => ?_)
    · simp only [Bool.and_eq_true, decide_eq_true_eq] at h'
      have e : x = l.getD i ([], []) := Prod.ext h'.1 h'.2
      exact ⟨fun h => absurd h (by omega), fun h => absurd (e ▸ List.mem_cons_self) h⟩
    · have e : ¬ x = l.getD i ([], []) := fun e => h' (by rw [← e]; simp)
      rw [w64 (by omega) (by omega)]
      refine (indexRule_loop l hl x n (i + 1) (by omega)).mono fun r hr => ?_
      rw [hr, List.mem_cons, not_or]
      exact ⟨fun h => ⟨e, h⟩, fun h => h.2⟩
theorem hasRule_ev (l : List (List UInt8 × List UInt8)) (hl : l.length ≤ 1000) (x y : List UInt8) : EvP (fun k => slices_Contains_Simpl_Rule_impl_Rule k l x y) (fun r => r = true ↔ (x, y) ∈ l) := by
  refine EvP.fn (fun k => slices_Contains_Simpl_Rule_impl_Rule_eq k _ _ _) (EvP.bind (P := fun r => r < 0 ↔ (x, y) ∉ l) (EvP.fn (fun k => slices_Index_Simpl_Rule_impl_Rule_eq k _ _ _) ((indexRule_loop l hl (x, y) l.length 0 (by omega)).mono fun r hr => by rw [hr, List.drop_zero])) fun r hr => EvP.now ?_)
  rw [decide_eq_true_iff]
  by_cases h : (x, y) ∈ l
  · exact ⟨fun _ => h, fun _ => by have := mt hr.1 (fun h' => h' h); omega⟩
  · exact ⟨fun h0 => absurd (hr.2 h) (by omega), fun h' => absurd h' h⟩
/-- From a place on. -/
def okFrom (l : List (List UInt8 × List UInt8)) (i : Nat) : Prop := ∀ j, i ≤ j → j < l.length → ruleOk (l.getD j ([], [])) = true ∧ l.getD j ([], []) ∉ l.take j
theorem okFrom_step {l : List (List UInt8 × List UInt8)} {i : Nat} (hi : i < l.length) : okFrom l i ↔ ((ruleOk (l.getD i ([], [])) = true ∧ l.getD i ([], []) ∉ l.take i) ∧ okFrom l (i + 1)) := by
  constructor
  · intro h; exact ⟨h i (Nat.le_refl _) hi, fun j hj hl => h j (by omega) hl⟩
  · rintro ⟨h1, h2⟩ j hj hl
    rcases Nat.eq_or_lt_of_le hj with e | e
    · rw [← e]; exact h1
    · exact h2 j e hl
theorem implGramOk_loop (g : GramT) (hg : g.2.length ≤ 8) : ∀ (n i : Nat), i + n = g.2.length → EvP (fun k => impl_GramOk_L58 k g g.2 (g.2.length : Int) (i : Int)) (fun r => r = true ↔ okFrom g.2 i)
  | 0, i, h => by
    refine EvP.fn (fun k => impl_GramOk_L58_eq k _ _ _ _) (EvP.decN (by omega) (EvP.now ?_))
    exact ⟨fun _ j h1 h2 => by omega, fun _ => rfl⟩
  | n + 1, i, h => by
    refine EvP.fn (fun k => impl_GramOk_L58_eq k _ _ _ _) (EvP.decY (by omega) (EvP.yes (by omega) (EvP.yes (by omega) ?_)))
    rw [Int.toNat_natCast, okFrom_step (by omega)]
    refine EvP.bind (implSignBig_ev _) fun b hb => ?_
    subst hb
    cases h1 : signBig (g.2.getD i ([], [])).1 with
    | false => exact EvP.no (by simp) (EvP.now ⟨fun h => by simp at h, fun h => by have := h.1.1; simp only [ruleOk, h1, Bool.false_and] at this; cases this⟩)
    | true =>
      refine EvP.yes rfl (EvP.bind (areSigns_ev _) fun b hb => ?_)
      subst hb
      cases h2 : ((g.2.getD i ([], [])).2.all sign && decide ((g.2.getD i ([], [])).2.length ≤ 4)) with
      | false => exact EvP.no (by simp) (EvP.now ⟨fun h => by simp at h, fun h => by have := h.1.1; simp only [ruleOk, h1, h2] at this; simp at this⟩)
      | true =>
        have hok : ruleOk (g.2.getD i ([], [])) = true := by simp only [ruleOk, h1, h2, Bool.and_self]
        refine EvP.yes rfl (EvP.yes (by omega) (EvP.yes (by omega) (EvP.yes (by show (i : Int) ≤ (g.2.length : Int); omega) ?_)))
        refine EvP.bind (hasRule_ev _ (by simp; omega) _ _) fun b hb => ?_
        have e : List.drop (Int.toNat 0) (List.take i g.2) = g.2.take i := rfl
        rw [e] at hb
        cases b with
        | true => exact EvP.yes rfl (EvP.now ⟨fun h => by simp at h, fun h => absurd (hb.1 rfl) h.1.2⟩)
        | false =>
          refine EvP.no (by simp) ?_
          rw [w64 (by omega) (by omega)]
          refine (implGramOk_loop g hg n (i + 1) (by omega)).mono fun r hr => ?_
          rw [hr]
          exact ⟨fun h => ⟨⟨hok, fun h' => by have := hb.2 h'; simp at this⟩, h⟩, fun h => h.2⟩
theorem implGramOk_ev (g : GramT) : EvP (fun k => impl_GramOk k g.1 g.2) (fun r => r = true ↔ GramOkP g) := by
  refine EvP.fn (fun k => impl_GramOk_eq k _ _) (EvP.bind (implSignBig_ev _) fun b hb => ?_)
  subst hb
  cases h1 : signBig g.1 with
  | false => exact EvP.no (by simp) (EvP.now ⟨fun h => by simp at h, fun h => by rw [h.1] at h1; cases h1⟩)
  | true =>
    refine EvP.yes rfl (EvP.dec (fun h8 => EvP.now ⟨fun h => by simp at h, fun h => by have := h.2.1; omega⟩) (fun h8 => ?_))
    refine (implGramOk_loop g (by omega) g.2.length 0 (by omega)).mono fun r hr => ?_
    rw [hr]
    exact ⟨fun h => ⟨h1, by omega, fun j hj => h j (Nat.zero_le _) hj⟩, fun h j _ hj => h.2.2 j hj⟩
theorem specGramOk_loop (g : GramT) (hg : g.2.length ≤ 8) (hs : ∀ x ∈ g.2, x.2.length ≤ 2000000) : ∀ (n i : Nat), i + n = g.2.length → EvP (fun k => spec_GramOk_L58 k g (i : Int)) (fun r => r = true ↔ okFrom g.2 i)
  | 0, i, h => by
    refine EvP.fn (fun k => spec_GramOk_L58_eq k _ _) (EvP.decN (by omega) (EvP.now ?_))
    exact ⟨fun _ j h1 h2 => by omega, fun _ => rfl⟩
  | n + 1, i, h => by
    refine EvP.fn (fun k => spec_GramOk_L58_eq k _ _) (EvP.decY (by omega) (EvP.yes (by omega) (EvP.yes (by omega) ?_)))
    rw [Int.toNat_natCast, okFrom_step (by omega)]
    refine EvP.bind (specSignBig_ev _) fun b hb => ?_
    subst hb
    cases h1 : signBig (g.2.getD i ([], [])).1 with
    | false => exact EvP.no (by simp) (EvP.now ⟨fun h => by simp at h, fun h => by have := h.1.1; simp only [ruleOk, h1, Bool.false_and] at this; cases this⟩)
    | true =>
      refine EvP.yes rfl (EvP.yes (by omega) (EvP.yes (by omega) (EvP.bind (l1Right_ev _ (hs _ (getD_mem _ _ _ (by omega)))) fun b hb => ?_)))
      subst hb
      cases h2 : ((g.2.getD i ([], [])).2.all sign && decide ((g.2.getD i ([], [])).2.length ≤ 4)) with
      | false => exact EvP.no (by simp) (EvP.now ⟨fun h => by simp at h, fun h => by have := h.1.1; simp only [ruleOk, h1, h2] at this; simp at this⟩)
      | true =>
        have hok : ruleOk (g.2.getD i ([], [])) = true := by simp only [ruleOk, h1, h2, Bool.and_self]
        refine EvP.yes rfl (EvP.yes (by omega) (EvP.yes (by omega) (EvP.yes (by show (i : Int) ≤ (g.2.length : Int); omega) (EvP.yes (by omega) (EvP.yes (by omega) ?_)))))
        refine EvP.bind (place_ev _ (by simp; omega) _ _) fun b hb => ?_
        have e : List.drop (Int.toNat 0) (List.take i g.2) = g.2.take i := rfl
        rw [e] at hb
        refine EvP.dec (fun h0 => EvP.now ⟨fun h => by simp at h, fun h => absurd (hb.2 h.1.2) (by omega)⟩) (fun h0 => ?_)
        rw [w64 (by omega) (by omega)]
        refine (specGramOk_loop g hg hs n (i + 1) (by omega)).mono fun r hr => ?_
        rw [hr]
        exact ⟨fun h => ⟨⟨hok, hb.1 (by omega)⟩, h⟩, fun h => h.2⟩
theorem specGramOk_ev (g : GramT) (hs : ∀ x ∈ g.2, x.2.length ≤ 2000000) : EvP (fun k => spec_GramOk k g.1 g.2) (fun r => r = true ↔ GramOkP g) := by
  refine EvP.fn (fun k => spec_GramOk_eq k _ _) (EvP.bind (specSignBig_ev _) fun b hb => ?_)
  subst hb
  cases h1 : signBig g.1 with
  | false => exact EvP.no (by simp) (EvP.now ⟨fun h => by simp at h, fun h => by rw [h.1] at h1; cases h1⟩)
  | true =>
    refine EvP.yes rfl (EvP.dec (fun h8 => EvP.now ⟨fun h => by simp at h, fun h => by have := h.2.1; omega⟩) (fun h8 => ?_))
    refine (specGramOk_loop g (by omega) hs g.2.length 0 (by omega)).mono fun r hr => ?_
    rw [hr]
    exact ⟨fun h => ⟨h1, by omega, fun j hj => h j (Nat.zero_le _) hj⟩, fun h j _ hj => h.2.2 j hj⟩
/-! texts -/
def textOk (s : List UInt8) : Bool := s.all small && decide (s.length ≤ 8)
theorem specTextOk_loop (s : List UInt8) (hs : s.length < 4611686018427387904) : ∀ (n i : Nat), i + n = s.length → EvP (fun k => spec_TextOk_L26 k s (i : Int)) (fun r => r = ((s.drop i).all small && decide (s.length ≤ 8)))
  | 0, i, h => by
    refine EvP.fn (fun k => spec_TextOk_L26_eq k s _) (EvP.dec (fun h' => absurd h' (by omega)) (fun _ => EvP.now ?_))
    have e : decide ((s.length : Int) ≤ 8) = decide (s.length ≤ 8) := by congr 1; exact propext ⟨fun h => by omega, fun h => by omega⟩
    rw [e, List.drop_eq_nil_of_le (by omega)]; simp
  | n + 1, i, h => by
    refine EvP.fn (fun k => spec_TextOk_L26_eq k s _) (EvP.dec (fun _ => EvP.yes (by omega) (EvP.yes (by omega) ?_)) (fun h' => absurd (show (i : Int) < s.length by omega) h'))
    rw [Int.toNat_natCast]
    refine EvP.bind (l1Small_ev _) fun b hb => ?_
    subst hb
    rw [drop_cons s i 0 (by omega)]
    cases hc : small (s.getD i 0) with
    | false => exact EvP.yes rfl (EvP.now (by rw [List.all_cons, hc]; rfl))
    | true =>
      refine EvP.no (by simp) ?_
      rw [w64 (by omega) (by omega)]
      have := specTextOk_loop s hs n (i + 1) (by omega)
      refine this.mono fun r hr => by rw [hr, List.all_cons, hc, Bool.true_and]
theorem specTextOk_ev (s : List UInt8) (hs : s.length < 4611686018427387904) : EvP (fun k => spec_TextOk k s) (fun r => r = textOk s) := by
  refine EvP.fn (fun k => spec_TextOk_eq k s) ((specTextOk_loop s hs s.length 0 (by omega)).mono fun r hr => by rw [hr]; rfl)
/-! texts -/
def abcd : List UInt8 := [97, 98, 99, 100]
theorem small_abcd (c : UInt8) : small c = abcd.contains c := by
  by_cases h1 : c = 97
  · subst h1; rfl
  by_cases h2 : c = 98
  · subst h2; rfl
  by_cases h3 : c = 99
  · subst h3; rfl
  by_cases h4 : c = 100
  · subst h4; rfl
  have e : abcd.contains c = false := by
    simp [abcd, h1, h2, h3, h4]
  rw [e]
  have k : ∀ n : UInt8, c ≠ n → c.toNat ≠ n.toNat := fun n h e => h (UInt8.toNat_inj.1 e)
  have a1 := k 97 h1
  have a2 := k 98 h2
  have a3 := k 99 h3
  have a4 := k 100 h4
  simp only [show (97 : UInt8).toNat = 97 from rfl, show (98 : UInt8).toNat = 98 from rfl, show (99 : UInt8).toNat = 99 from rfl, show (100 : UInt8).toNat = 100 from rfl] at a1 a2 a3 a4
  by_cases h5 : 97 ≤ c.toNat
  · have : ¬ c.toNat ≤ 100 := by omega
    simp [small, this]
  · simp [small, h5]
theorem trim_abcd (s : List UInt8) : (trimE s abcd = []) ↔ s.all small = true := by
  have e : (small : UInt8 → Bool) = abcd.contains := funext small_abcd
  rw [e]
  exact trim_nil s abcd
theorem implTextOk_ev (s : List UInt8) : EvP (fun k => impl_TextOk k s) (fun r => r = textOk s) := by
  refine EvP.fn (fun k => impl_TextOk_eq k s) (EvP.bind (P := fun r => r = textOk s) ?_ fun r hr => EvP.now hr)
  refine EvP.fn (fun k => impl_areSmalls_eq k _ _) (EvP.dec (fun h => ?_) (fun h => EvP.now ?_))
  · refine EvP.bind (P := fun r => r = trimE s abcd) (EvP.fn (fun k => strings_Trim_eq k _ _) (EvP.yes ⟨by omega, by decide, by decide⟩ (EvP.now rfl))) fun r hr => EvP.now ?_
    rw [hr]
    have h8 : s.length ≤ 8 := by omega
    show decide (trimE s abcd = []) = textOk s
    simp only [textOk, h8, decide_true, Bool.and_true]
    have := trim_abcd s
    cases hc : s.all small with
    | true => exact decide_eq_true (this.2 hc)
    | false => exact decide_eq_false (fun h => by rw [this.1 h] at hc; cases hc)
  · have h8 : ¬ s.length ≤ 8 := by omega
    simp [textOk, h8]
/-! what comes of signs -/
abbrev Rl := List UInt8 × List UInt8
/-- Signs come to what stands between two places of a text. -/
inductive Ders (R : List Rl) (s : List UInt8) : List UInt8 → Nat → Nat → Prop
  | nil (i : Nat) (hi : i ≤ s.length) : Ders R s [] i i
  | small (c : UInt8) (r : List UInt8) (i j : Nat) (hc : small c = true) (h : s[i]? = some c) (hr : Ders R s r (i + 1) j) : Ders R s (c :: r) i j
  | big (c : UInt8) (q r : List UInt8) (i m j : Nat) (hc : small c = false) (h : ([c], q) ∈ R) (hq : Ders R s q i m) (hr : Ders R s r m j) : Ders R s (c :: r) i j
theorem Ders.le {R : List Rl} {s l : List UInt8} {i j : Nat} (h : Ders R s l i j) : i ≤ j ∧ j ≤ s.length := by
  induction h with
  | nil i hi => exact ⟨Nat.le_refl _, hi⟩
  | small c r i j hc h hr ih => omega
  | big c q r i m j hc h hq hr ih1 ih2 => omega
theorem Ders.append {R : List Rl} {s a b : List UInt8} {i m j : Nat} (h : Ders R s a i m) (h' : Ders R s b m j) : Ders R s (a ++ b) i j := by
  induction h with
  | nil i hi => exact h'
  | small c r i j hc h hr ih => exact .small c _ i _ hc h (ih h')
  | big c q r i m j hc h hq hr ih1 ih2 => exact .big c q _ i m _ hc h hq (ih2 h')
theorem Ders.more {R R' : List Rl} (hR : ∀ x ∈ R, x ∈ R') {s l : List UInt8} {i j : Nat} (h : Ders R s l i j) : Ders R' s l i j := by
  induction h with
  | nil i hi => exact .nil i hi
  | small c r i j hc h hr ih => exact .small c _ i _ hc h ih
  | big c q r i m j hc h hq hr ih1 ih2 => exact .big c q _ i m _ hc (hR _ h) ih1 ih2
theorem Ders.put {R : List Rl} {s l : List UInt8} {i j : Nat} (h : Ders R s l i j) (a b : List UInt8) : Ders R (a ++ s ++ b) l (a.length + i) (a.length + j) := by
  induction h with
  | nil i hi => exact .nil _ (by simp; omega)
  | small c r i j hc h hr ih =>
    have hl := (List.getElem?_eq_some_iff.1 h).1
    refine .small c _ _ _ hc ?_ (by rw [Nat.add_assoc]; exact ih)
    rw [List.append_assoc, List.getElem?_append_right (by omega), List.getElem?_append_left (by omega), Nat.add_sub_cancel_left]
    exact h
  | big c q r i m j hc h hq hr ih1 ih2 => exact .big c q _ _ _ _ hc h ih1 ih2
/-- Told backward. -/
theorem Ders.turn {R R' : List Rl} (hR : ∀ x ∈ R, (x.1, x.2.reverse) ∈ R') {s l : List UInt8} {i j : Nat} (h : Ders R s l i j) : Ders R' s.reverse l.reverse (s.length - j) (s.length - i) := by
  induction h with
  | nil i hi => exact .nil _ (by simp)
  | small c r i j hc h hr ih =>
    have hl := (List.getElem?_eq_some_iff.1 h).1
    have hle := hr.le
    rw [List.reverse_cons]
    refine ih.append (.small c [] _ _ hc ?_ ?_)
    · rw [List.getElem?_reverse (by omega)]
      have : s.length - 1 - (s.length - (i + 1)) = i := by omega
      rw [this]; exact h
    · have : s.length - (i + 1) + 1 = s.length - i := by omega
      rw [this]; exact .nil _ (by simp)
  | big c q r i m j hc h hq hr ih1 ih2 =>
    rw [List.reverse_cons]
    exact ih2.append (.big c _ [] _ _ _ hc (hR _ h) ih1 (.nil _ (by simp)))
/-! charts -/
/-- A sign comes to a part, as a chart tells. -/
def step (C : UInt8 → Nat → Nat → Prop) (s : List UInt8) (c : UInt8) (i j : Nat) : Prop := (small c = true ∧ j = i + 1 ∧ s[i]? = some c) ∨ (small c = false ∧ C c i j)
def split (C : UInt8 → Nat → Nat → Prop) (s : List UInt8) : List UInt8 → Nat → Nat → Prop
  | [], i, j => i = j
  | c :: r, i, j => ∃ m, i ≤ m ∧ m ≤ j ∧ step C s c i m ∧ split C s r m j
theorem split_le {C : UInt8 → Nat → Nat → Prop} {s : List UInt8} : ∀ {l : List UInt8} {i j : Nat}, split C s l i j → i ≤ j
  | [], i, j, h => Nat.le_of_eq h
  | _ :: _, i, j, ⟨m, h1, h2, _, _⟩ => Nat.le_trans h1 h2
/-- What a chart tells is so. -/
theorem split_sound {R : List Rl} {C : UInt8 → Nat → Nat → Prop} {s : List UInt8} (hC : ∀ c i j, small c = false → C c i j → Ders R s [c] i j) : ∀ {l : List UInt8} {i j : Nat}, j ≤ s.length → split C s l i j → Ders R s l i j
  | [], i, j, hj, h => by
    have h : i = j := h
    subst h; exact .nil _ hj
  | c :: r, i, j, hj, ⟨m, h1, h2, h3, h4⟩ => by
    have hr := split_sound hC hj h4
    rcases h3 with ⟨a1, rfl, a3⟩ | ⟨a1, a2⟩
    · exact .small c r i j a1 a3 hr
    · exact (hC c i m a1 a2).append hr
/-- A chart that is closed tells all. -/
theorem split_all {R : List Rl} {C : UInt8 → Nat → Nat → Prop} {s : List UInt8} (hC : ∀ c q i j, small c = false → ([c], q) ∈ R → i ≤ j → j ≤ s.length → split C s q i j → C c i j) {l : List UInt8} {i j : Nat} (h : Ders R s l i j) : split C s l i j := by
  induction h with
  | nil i hi => rfl
  | small c r i j hc h hr ih => exact ⟨i + 1, by omega, split_le ih, .inl ⟨hc, rfl, h⟩, ih⟩
  | big c q r i m j hc h hq hr ih1 ih2 => exact ⟨m, split_le ih1, split_le ih2, .inr ⟨hc, hC c q i m hc h hq.le.1 hq.le.2 ih1⟩, ih2⟩
theorem split_mono {C C' : UInt8 → Nat → Nat → Prop} (h : ∀ c i j, C c i j → C' c i j) {s : List UInt8} : ∀ {l : List UInt8} {i j : Nat}, split C s l i j → split C' s l i j
  | [], i, j, hh => hh
  | c :: r, i, j, ⟨m, h1, h2, h3, h4⟩ => ⟨m, h1, h2, h3.imp id (fun ⟨a, b⟩ => ⟨a, h _ _ _ b⟩), split_mono h h4⟩
theorem ders_one {C : UInt8 → Nat → Nat → Prop} {s : List UInt8} {c : UInt8} {i j : Nat} (hc : small c = false) (h : split C s [c] i j) : C c i j := by
  obtain ⟨m, h1, h2, h3, h4⟩ := h
  have h4 : m = j := h4
  subst h4
  rcases h3 with ⟨a, _⟩ | ⟨_, a⟩
  · rw [hc] at a; cases a
  · exact a
/-! charts kept in a map -/
abbrev PT : Ty := .pair .str (.pair (.int .i64) (.int .i64))
abbrev Key := List UInt8 × Int × Int
abbrev Mp := List (Key × Bool)
theorem eqD_key (x y : Key) : eqD PT x y = decide (x = y) := by
  obtain ⟨a, b, c⟩ := x
  obtain ⟨d, e, f⟩ := y
  show (decide (a = d) && (decide (b = e) && decide (c = f))) = _
  rw [Bool.eq_iff_iff]
  simp only [Bool.and_eq_true, decide_eq_true_eq, Prod.mk.injEq]
def mv (xs : Mp) (x : Key) : Bool := mval PT .bool xs x
theorem mv_nil (x : Key) : mv [] x = false := rfl
theorem mv_put : ∀ (xs : Mp) (x : Key) (z : Key), mv (mput PT .bool xs x true) z = if z = x then true else mv xs z
  | [], x, z => by
    show (match eqD PT z x with | true => true | false => false) = _
    rw [eqD_key]
    by_cases h : z = x <;> simp [h, mv, mval, Ty.dflt]
  | p :: r, x, z => by
    have ih := mv_put r x z
    unfold mv at ih ⊢
    unfold mput
    rw [eqD_key]
    by_cases h : x = p.1
    · rw [decide_eq_true h]
      show mval PT .bool ((p.1, true) :: r) z = _
      unfold mval
      rw [eqD_key, ← h]
      by_cases h2 : z = x
      · simp [h2]
      · simp [h2]
    · rw [decide_eq_false h]
      show mval PT .bool (p :: mput PT .bool r x true) z = _
      unfold mval
      rw [eqD_key]
      by_cases h2 : z = p.1
      · have h3 : ¬ z = x := fun e => h (e ▸ h2)
        rw [decide_eq_true h2, if_neg h3]
      · rw [decide_eq_false h2]; exact ih
def has (xs : Mp) (c : UInt8) (i j : Nat) : Prop := mv xs ([c], (i : Int), (j : Int)) = true
def below (xs xs' : Mp) : Prop := ∀ z, mv xs z = true → mv xs' z = true
theorem below_has {xs xs' : Mp} (h : below xs xs') : ∀ c i j, has xs c i j → has xs' c i j := fun c i j => h _
theorem below_put (xs : Mp) (x : Key) : below xs (mput PT .bool xs x true) := fun z h => by
  rw [mv_put]; split
  · rfl
  · exact h
/-- What is still to be found. -/
def keys (R : List Rl) (n : Nat) : List Key := R.flatMap fun r => (List.range (n + 1)).flatMap fun (i : Nat) => (List.range (n + 1)).map fun (j : Nat) => ((r.1, (i : Int), (j : Int)) : Key)
def todo (R : List Rl) (n : Nat) (xs : Mp) : Nat := (keys R n).countP fun x => !mv xs x
theorem todo_le (R : List Rl) (n : Nat) {xs xs' : Mp} (h : below xs xs') : todo R n xs' ≤ todo R n xs := by
  refine List.countP_mono_left fun x _ hx => ?_
  cases hv : mv xs x with
  | false => rfl
  | true => rw [h x hv] at hx; cases hx
theorem countP_lt {α : Type} (p q : α → Bool) (h : ∀ x, p x = true → q x = true) : ∀ (l : List α) (a : α), a ∈ l → p a = false → q a = true → l.countP p < l.countP q
  | b :: l, a, ha, hp, hq => by
    have hle : l.countP p ≤ l.countP q := List.countP_mono_left fun x _ hx => h x hx
    rw [List.countP_cons, List.countP_cons]
    rcases List.mem_cons.1 ha with rfl | ha
    · simp only [hp, hq, if_true]; simp; omega
    · have := countP_lt p q h l a ha hp hq
      have : (if p b = true then 1 else 0) ≤ (if q b = true then 1 else 0) := by
        by_cases hb : p b = true
        · simp [hb, h b hb]
        · simp [hb]
      omega
theorem todo_lt (R : List Rl) (n : Nat) {xs : Mp} {r : Rl} (hr : r ∈ R) {i j : Nat} (hi : i ≤ n) (hj : j ≤ n) (h : mv xs (r.1, (i : Int), (j : Int)) = false) : todo R n (mput PT .bool xs (r.1, (i : Int), (j : Int)) true) < todo R n xs := by
  refine countP_lt _ _ (fun x hx => ?_) _ (r.1, (i : Int), (j : Int)) ?_ ?_ ?_
  · cases hv : mv xs x with
    | false => rfl
    | true => rw [below_put xs _ x hv] at hx; cases hx
  · exact List.mem_flatMap.2 ⟨r, hr, List.mem_flatMap.2 ⟨i, List.mem_range.2 (by omega), List.mem_map.2 ⟨j, List.mem_range.2 (by omega), rfl⟩⟩⟩
  · rw [mv_put, if_pos rfl]; rfl
  · rw [h]; rfl
/-- Rules of one sign each to the left. -/
def Nice (R : List Rl) : Prop := ∀ x ∈ R, (∃ c, x.1 = [c] ∧ small c = false) ∧ x.2.length ≤ 1000
/-- What a chart tells is so. -/
def Snd (R : List Rl) (s : List UInt8) (xs : Mp) : Prop := ∀ c i j, has xs c i j → Ders R s [c] i j
theorem snd_nil (R : List Rl) (s : List UInt8) : Snd R s [] := fun c i j h => by cases h
theorem snd_put {R : List Rl} {s : List UInt8} {xs : Mp} (h : Snd R s xs) {r : Rl} (hr : r ∈ R) {c : UInt8} (hc : r.1 = [c]) (hs : small c = false) {i j : Nat} (hj : j ≤ s.length) (hsp : split (has xs) s r.2 i j) : Snd R s (mput PT .bool xs (r.1, (i : Int), (j : Int)) true) := by
  intro d a b hd
  unfold has at hd
  rw [mv_put] at hd
  split at hd
  · rename_i e
    simp only [Prod.mk.injEq, hc, List.cons.injEq, and_true] at e
    obtain ⟨rfl, e1, e2⟩ := e
    obtain rfl : a = i := by omega
    obtain rfl : b = j := by omega
    refine .big d r.2 [] a b b hs (hc ▸ hr) (split_sound (fun c i j _ h' => h c i j h') hj hsp) (.nil b hj)
  · exact h d a b hd
/-- How a chart grows. -/
structure Gw (R : List Rl) (s : List UInt8) (ch : Bool) (xs : Mp) (ch' : Bool) (xs' : Mp) : Prop where
  bel : below xs xs'
  snd : Snd R s xs'
  up : ch = true → ch' = true
  less : ch' = true → ch = true ∨ todo R s.length xs' < todo R s.length xs
  same : ch' = false → xs' = xs
theorem Gw.refl {R : List Rl} {s : List UInt8} {ch : Bool} {xs : Mp} (h : Snd R s xs) : Gw R s ch xs ch xs := ⟨fun _ h => h, h, id, .inl, fun _ => rfl⟩
theorem Gw.trans {R : List Rl} {s : List UInt8} {a b c : Bool} {x y z : Mp} (h : Gw R s a x b y) (k : Gw R s b y c z) : Gw R s a x c z := by
  refine ⟨fun v hv => k.bel v (h.bel v hv), k.snd, fun e => k.up (h.up e), fun e => ?_, fun e => ?_⟩
  · rcases k.less e with hb | hl
    · rcases h.less hb with ha | hl
      · exact .inl ha
      · exact .inr (Nat.lt_of_le_of_lt (todo_le R s.length k.bel) hl)
    · exact .inr (Nat.lt_of_lt_of_le hl (todo_le R s.length h.bel))
  · have hb : b = false := by
      cases b with
      | false => rfl
      | true => rw [k.up rfl] at e; cases e
    rw [k.same e, h.same hb]
/-- A part where nothing is left to find. -/
def Shut (s : List UInt8) (xs : Mp) (r : Rl) (i j : Nat) : Prop := split (has xs) s r.2 i j → mv xs (r.1, (i : Int), (j : Int)) = true
theorem closed_all {R : List Rl} (hR : Nice R) {s : List UInt8} {xs : Mp} (h : Snd R s xs) (hc : ∀ r ∈ R, ∀ i j, i ≤ j → j ≤ s.length → Shut s xs r i j) (c : UInt8) (hs : small c = false) (i j : Nat) : has xs c i j ↔ Ders R s [c] i j :=
  ⟨h c i j, fun hd => ders_one (s := s) hs (split_all (fun d q a b hd' hq hab hb hsp => hc _ hq a b hab hb hsp) hd)⟩
/-! charts: impl -/
theorem drop1u (l : List UInt8) (i : Nat) (h : i < l.length) : List.drop i (List.take (i + 1) l) = [l.getD i 0] := by
  rw [List.drop_take, Nat.add_sub_cancel_left, drop_cons l i 0 h]; rfl
theorem getD_some (l : List UInt8) (i : Nat) (h : i < l.length) : l[i]? = some (l.getD i 0) := by
  rw [List.getD_eq_getElem?_getD, List.getElem?_eq_getElem h]; rfl
def Chart (g : GramT) (s : List UInt8) (r : List UInt8 × List Rl × List UInt8 × Mp) : Prop := ∃ xs, r = (g.1, g.2, s, xs) ∧ Snd g.2 s xs ∧ ∀ r ∈ g.2, ∀ i j, i ≤ j → j ≤ s.length → Shut s xs r i j
section
variable {g : GramT} {s : List UInt8} {xs0 : Mp}
end
theorem nice_of {g : GramT} (h : GramOkP g) : Nice g.2 := by
  intro x hx
  obtain ⟨j, hj, rfl⟩ := List.mem_iff_getElem.1 hx
  have := (h.2.2 j hj).1
  rw [List.getD_eq_getElem?_getD, List.getElem?_eq_getElem hj] at this
  have this : ruleOk g.2[j] = true := this
  unfold ruleOk at this
  simp only [Bool.and_eq_true, decide_eq_true_eq] at this
  obtain ⟨h1, h2, h3⟩ := this
  refine ⟨?_, by omega⟩
  match hx : g.2[j].1, h1 with
  | [c], h1 =>
    refine ⟨c, rfl, ?_⟩
    have h1 : big c = true := h1
    unfold big at h1
    unfold small
    simp only [Bool.and_eq_true, decide_eq_true_eq] at h1
    simp only [Bool.and_eq_false_imp, decide_eq_true_eq, decide_eq_false_iff_not]
    omega
/-! whether a text comes of rules: impl -/
def AllP (g : GramT) (s : List UInt8) : Prop := GramOkP g ∧ textOk s = true ∧ Ders g.2 s g.1 0 s.length
/-! least costs -/
/-- x is the least number of P, told up to F. -/
structure Lst (F : Nat) (P : Nat → Prop) (x : Nat) : Prop where
  so : x < F → P x
  le : x ≤ F
  all : ∀ y, P y → x ≤ y
theorem Lst.none {F : Nat} {P : Nat → Prop} (h : ∀ y, ¬ P y) : Lst F P F := ⟨fun h' => absurd h' (Nat.lt_irrefl _), Nat.le_refl _, fun y hy => absurd hy (h y)⟩
theorem Lst.one {F n : Nat} {P : Nat → Prop} (hn : n ≤ F) (h : P n) (h' : ∀ y, P y → y = n) : Lst F P n := ⟨fun _ => h, hn, fun y hy => Nat.le_of_eq (h' y hy).symm⟩
theorem Lst.congr {F x : Nat} {P Q : Nat → Prop} (h : Lst F P x) (e : ∀ y, P y ↔ Q y) : Lst F Q x := ⟨fun h' => (e _).1 (h.so h'), h.le, fun y hy => h.all y ((e y).2 hy)⟩
theorem Lst.eq {F F' x y z : Nat} {P : Nat → Prop} (h : Lst F P x) (h' : Lst F' P y) (hz : P z) (h1 : z < F) (h2 : z < F') : x = y := by
  have a := h.all z hz
  have b := h'.all z hz
  have c := h.all y (h'.so (by omega))
  have d := h'.all x (h.so (by omega))
  omega
/-- One way more. -/
theorem Lst.step {F x y z : Nat} {P Q R : Nat → Prop} (h : Lst F P x) (hq : Lst F Q y) (hr : Lst F R z) : Lst F (fun v => P v ∨ ∃ a b, Q a ∧ R b ∧ v = a + b) (min x (y + z)) := by
  refine ⟨fun hlt => ?_, by have := h.le; omega, fun v hv => ?_⟩
  · rcases Nat.le_total x (y + z) with hc | hc
    · rw [Nat.min_eq_left hc] at hlt ⊢; exact .inl (h.so hlt)
    · rw [Nat.min_eq_right hc] at hlt ⊢; exact .inr ⟨y, z, hq.so (by omega), hr.so (by omega), rfl⟩
  · rcases hv with hv | ⟨a, b, ha, hb, rfl⟩
    · have := h.all v hv; omega
    · have := hq.all a ha; have := hr.all b hb; omega
/-- What signs cost between two places: S tells it of a sign. -/
def Sp (S : UInt8 → Nat → Nat → Nat → Prop) : List UInt8 → Nat → Nat → Nat → Prop
  | [], i, j, x => i = j ∧ x = 0
  | c :: r, i, j, x => ∃ m y z, S c i m y ∧ Sp S r m j z ∧ x = y + z
theorem Sp.snoc {S : UInt8 → Nat → Nat → Nat → Prop} (c : UInt8) : ∀ (l : List UInt8) (i j x : Nat), Sp S (l ++ [c]) i j x ↔ ∃ m y z, Sp S l i m y ∧ S c m j z ∧ x = y + z
  | [], i, j, x => by
    constructor
    · rintro ⟨m, y, z, h1, ⟨h2, h3⟩, h4⟩; subst h2; exact ⟨i, 0, y, ⟨rfl, rfl⟩, h1, by omega⟩
    · rintro ⟨m, y, z, ⟨h1, h3⟩, h2, h4⟩; subst h1; exact ⟨j, z, 0, h2, ⟨rfl, rfl⟩, by omega⟩
  | d :: l, i, j, x => by
    constructor
    · rintro ⟨m, y, z, h1, h2, rfl⟩
      obtain ⟨m', y', z', h3, h4, rfl⟩ := (Sp.snoc c l m j z).1 h2
      exact ⟨m', y + y', z', ⟨m, y, y', h1, h3, rfl⟩, h4, by omega⟩
    · rintro ⟨m', y', z', ⟨m, y, y2, h1, h3, rfl⟩, h4, rfl⟩
      exact ⟨m, y, y2 + z', h1, (Sp.snoc c l m j _).2 ⟨m', y2, z', h3, h4, rfl⟩, by omega⟩
/-- What signs cost between two places. b: a small sign; e: a rule with nothing on its right. -/
inductive Cst (R : List Rl) (b : UInt8 → Nat → Nat → Nat → Prop) (e : Nat → Nat → Nat → Prop) : List UInt8 → Nat → Nat → Nat → Prop
  | nil (i : Nat) : Cst R b e [] i i 0
  | small (c : UInt8) (r : List UInt8) (i m j x y : Nat) (hc : small c = true) (h : b c i m x) (hr : Cst R b e r m j y) : Cst R b e (c :: r) i j (x + y)
  | none (c : UInt8) (r : List UInt8) (i m j x y : Nat) (hc : small c = false) (h : ([c], []) ∈ R) (he : e i m x) (hr : Cst R b e r m j y) : Cst R b e (c :: r) i j (x + y)
  | big (c d : UInt8) (q r : List UInt8) (i m j x y : Nat) (hc : small c = false) (h : ([c], d :: q) ∈ R) (hq : Cst R b e (d :: q) i m x) (hr : Cst R b e r m j y) : Cst R b e (c :: r) i j (x + y)
section
variable {R : List Rl} {b : UInt8 → Nat → Nat → Nat → Prop} {e : Nat → Nat → Nat → Prop}
theorem Cst.append {l k : List UInt8} {i m j x y : Nat} (h : Cst R b e l i m x) (h' : Cst R b e k m j y) : Cst R b e (l ++ k) i j (x + y) := by
  induction h generalizing y with
  | nil i => rw [Nat.zero_add]; exact h'
  | small c r i m j x z hc h hr ih => rw [Nat.add_assoc]; exact .small c _ i m _ x _ hc h (ih h')
  | none c r i m j x z hc h he hr ih => rw [Nat.add_assoc]; exact .none c _ i m _ x _ hc h he (ih h')
  | big c d q r i m j x z hc h hq hr ih1 ih2 => rw [Nat.add_assoc]; exact .big c d q _ i m _ x _ hc h hq (ih2 h')
/-- What a rule's right costs. -/
def Rt (S : UInt8 → Nat → Nat → Nat → Prop) (e : Nat → Nat → Nat → Prop) : List UInt8 → Nat → Nat → Nat → Prop
  | [], i, j, x => e i j x
  | c :: r, i, j, x => Sp S (c :: r) i j x
/-- One sign, as a chart tells it. -/
def Sg (b : UInt8 → Nat → Nat → Nat → Prop) (F : Nat) (v : UInt8 → Nat → Nat → Nat) (c : UInt8) (i j x : Nat) : Prop := (small c = true ∧ b c i j x) ∨ (small c = false ∧ x = v c i j ∧ x < F)
theorem Sp.sound {S : UInt8 → Nat → Nat → Nat → Prop} (h : ∀ c i j x, S c i j x → Cst R b e [c] i j x) : ∀ (l : List UInt8) (i j x : Nat), Sp S l i j x → Cst R b e l i j x
  | [], i, j, x, ⟨h1, h2⟩ => by subst h1; subst h2; exact .nil i
  | c :: r, i, j, x, ⟨m, y, z, h1, h2, h3⟩ => by subst h3; exact (h c i m y h1).append (Sp.sound h r m j z h2)
theorem rt_sound {S : UInt8 → Nat → Nat → Nat → Prop} (h : ∀ c i j x, S c i j x → Cst R b e [c] i j x) {c : UInt8} {q : List UInt8} (hc : small c = false) (hq : ([c], q) ∈ R) {i j x : Nat} (hx : Rt S e q i j x) : Cst R b e [c] i j x := by
  cases q with
  | nil => exact .none c [] i j j x 0 hc hq hx (.nil j)
  | cons d q => exact .big c d q [] i j j x 0 hc hq (Sp.sound h _ i j x hx) (.nil j)
/-- A chart that is closed tells all. -/
theorem cst_closed {F : Nat} {v : UInt8 → Nat → Nat → Nat}
    (hc : ∀ c q i j x, small c = false → ([c], q) ∈ R → Rt (Sg b F v) e q i j x → v c i j ≤ x) {l : List UInt8} {i j x : Nat} (h : Cst R b e l i j x) : F ≤ x ∨ ∃ y, y ≤ x ∧ Sp (Sg b F v) l i j y := by
  induction h with
  | nil i => exact .inr ⟨0, Nat.le_refl _, rfl, rfl⟩
  | small c r i m j x y hs h hr ih =>
    rcases ih with ih | ⟨z, hz, ih⟩
    · exact .inl (by omega)
    · exact .inr ⟨x + z, by omega, m, x, z, .inl ⟨hs, h⟩, ih, rfl⟩
  | none c r i m j x y hs h he hr ih =>
    have := hc c [] i m x hs h he
    rcases ih with ih | ⟨z, hz, ih⟩
    · exact .inl (by omega)
    · by_cases hF : v c i m < F
      · exact .inr ⟨v c i m + z, by omega, m, _, z, .inr ⟨hs, rfl, hF⟩, ih, rfl⟩
      · exact .inl (by omega)
  | big c d q r i m j x y hs h hq hr ih1 ih2 =>
    rcases ih1 with ih1 | ⟨w, hw, ih1⟩
    · exact .inl (by omega)
    · have := hc c (d :: q) i m w hs h ih1
      rcases ih2 with ih | ⟨z, hz, ih⟩
      · exact .inl (by omega)
      · by_cases hF : v c i m < F
        · exact .inr ⟨v c i m + z, by omega, m, _, z, .inr ⟨hs, rfl, hF⟩, ih, rfl⟩
        · exact .inl (by omega)
theorem cst_least {F : Nat} {v : UInt8 → Nat → Nat → Nat} (hs : ∀ c i j, small c = false → v c i j < F → Cst R b e [c] i j (v c i j)) (hF : ∀ c i j, v c i j ≤ F)
    (hc : ∀ c q i j x, small c = false → ([c], q) ∈ R → Rt (Sg b F v) e q i j x → v c i j ≤ x) (c : UInt8) (h : small c = false) (i j : Nat) : Lst F (Cst R b e [c] i j) (v c i j) := by
  refine ⟨hs c i j h, hF c i j, fun y hy => ?_⟩
  rcases cst_closed hc hy with h' | ⟨z, hz, m, a, k, h1, ⟨rfl, rfl⟩, rfl⟩
  · exact Nat.le_trans (hF c i j) h'
  · rcases h1 with ⟨h1, _⟩ | ⟨_, rfl, _⟩
    · rw [h] at h1; cases h1
    · omega
theorem Cst.more {R' : List Rl} (hR : ∀ x ∈ R, x ∈ R') {l : List UInt8} {i j x : Nat} (h : Cst R b e l i j x) : Cst R' b e l i j x := by
  induction h with
  | nil i => exact .nil i
  | small c r i m j x z hc h hr ih => exact .small c _ i m _ x _ hc h ih
  | none c r i m j x z hc h he hr ih => exact .none c _ i m _ x _ hc (hR _ h) he ih
  | big c d q r i m j x z hc h hq hr ih1 ih2 => exact .big c d q _ i m _ x _ hc (hR _ h) ih1 ih2
end
/-! costs of a text -/
def inP (s : List UInt8) (c : UInt8) (i j : Nat) : Bool := (List.range' i (j - i)).any fun k => decide (s[k]? = some c)
theorem inP_iff (s : List UInt8) (c : UInt8) (i j : Nat) : inP s c i j = true ↔ ∃ k, i ≤ k ∧ k < j ∧ s[k]? = some c := by
  unfold inP
  rw [List.any_eq_true]
  constructor
  · rintro ⟨k, hk, h⟩
    rw [List.mem_range'_1] at hk
    exact ⟨k, hk.1, by omega, of_decide_eq_true h⟩
  · rintro ⟨k, h1, h2, h3⟩
    exact ⟨k, List.mem_range'_1.2 ⟨h1, by omega⟩, decide_eq_true h3⟩
def mcost (s : List UInt8) (c : UInt8) (i j : Nat) : Nat := if inP s c i j = true then j - i - 1 else max 1 (j - i)
def mB (s : List UInt8) (c : UInt8) (i j x : Nat) : Prop := i ≤ j ∧ j ≤ s.length ∧ x = mcost s c i j
def mE (n : Nat) (i j x : Nat) : Prop := i ≤ j ∧ j ≤ n ∧ x = j - i
theorem mcost_le (s : List UInt8) (c : UInt8) (i j : Nat) : mcost s c i j ≤ max 1 (j - i) := by unfold mcost; split <;> omega
theorem mcost_self (s : List UInt8) (c : UInt8) (i : Nat) : mcost s c i i = 1 := by
  unfold mcost
  rw [if_neg (fun h => by obtain ⟨k, h1, h2, _⟩ := (inP_iff s c i i).1 h; omega)]
  omega
theorem inP_next (s : List UInt8) (c : UInt8) (i j : Nat) (h : i ≤ j) : inP s c i (j + 1) = (inP s c i j || decide (s[j]? = some c)) := by
  rw [Bool.eq_iff_iff, Bool.or_eq_true, inP_iff, inP_iff]
  constructor
  · rintro ⟨k, h1, h2, h3⟩
    rcases Nat.lt_or_ge k j with hk | hk
    · exact .inl ⟨k, h1, hk, h3⟩
    · obtain rfl : k = j := by omega
      exact .inr (decide_eq_true h3)
  · rintro (⟨k, h1, h2, h3⟩ | h3)
    · exact ⟨k, h1, by omega, h3⟩
    · exact ⟨j, h, by omega, of_decide_eq_true h3⟩
theorem mcost_next (s : List UInt8) (c : UInt8) (i j : Nat) (h : i ≤ j) : mcost s c i (j + 1) ≤ mcost s c i j + 1 := by
  unfold mcost
  rw [inP_next s c i j h]
  have key : ∀ a b : Bool, (if (a || b) = true then j + 1 - i - 1 else max 1 (j + 1 - i)) ≤ (if a = true then j - i - 1 else max 1 (j - i)) + 1 := fun a b => by
    cases a <;> cases b <;> simp <;> omega
  exact key _ _
theorem mcost_hit (s : List UInt8) (c : UInt8) (i j : Nat) (h : i ≤ j) : mcost s c i (j + 1) ≤ (j - i) + (if s[j]? = some c then 0 else 1) := by
  unfold mcost
  rw [inP_next s c i j h]
  have key : ∀ (a : Bool) (P : Prop) [Decidable P], (if (a || decide P) = true then j + 1 - i - 1 else max 1 (j + 1 - i)) ≤ (j - i) + (if P then 0 else 1) := fun a P _ => by
    cases a <;> by_cases hp : P <;> simp [hp] <;> omega
  exact key _ _
theorem inP_turn (s : List UInt8) (c : UInt8) (i j : Nat) (h : i ≤ j) (hj : j ≤ s.length) : inP s.reverse c (s.length - j) (s.length - i) = inP s c i j := by
  rw [Bool.eq_iff_iff, inP_iff, inP_iff]
  constructor
  · rintro ⟨k, h1, h2, h3⟩
    rw [List.getElem?_reverse (by omega)] at h3
    exact ⟨s.length - 1 - k, by omega, by omega, h3⟩
  · rintro ⟨k, h1, h2, h3⟩
    refine ⟨s.length - 1 - k, by omega, by omega, ?_⟩
    rw [List.getElem?_reverse (by omega)]
    have : s.length - 1 - (s.length - 1 - k) = k := by omega
    rw [this]; exact h3
theorem mB_turn {s : List UInt8} {c : UInt8} {i j x : Nat} (h : mB s c i j x) : mB s.reverse c (s.length - j) (s.length - i) x := by
  obtain ⟨h1, h2, h3⟩ := h
  refine ⟨by omega, by simp, ?_⟩
  subst h3
  unfold mcost
  rw [inP_turn s c i j h1 h2]
  have : s.length - i - (s.length - j) = j - i := by omega
  rw [this]
/-- Told backward. -/
theorem Cst.turn {R R' : List Rl} (hR : ∀ x ∈ R, (x.1, x.2.reverse) ∈ R') {s l : List UInt8} {i j x : Nat} (h : Cst R (mB s) (mE s.length) l i j x) : Cst R' (mB s.reverse) (mE s.reverse.length) l.reverse (s.length - j) (s.length - i) x := by
  induction h with
  | nil i => exact .nil _
  | small c r i m j x z hc h hr ih =>
    rw [List.reverse_cons, Nat.add_comm]
    exact ih.append (by have := Cst.small (R := R') (b := mB s.reverse) (e := mE s.reverse.length) c [] _ _ _ x 0 hc (mB_turn h) (.nil _); exact this)
  | none c r i m j x z hc h he hr ih =>
    rw [List.reverse_cons, Nat.add_comm]
    obtain ⟨h1, h2, h3⟩ := he
    exact ih.append (by have := Cst.none (R := R') (b := mB s.reverse) (e := mE s.reverse.length) c [] (s.length - m) (s.length - i) _ x 0 hc (hR _ h) ⟨by omega, by simp, by omega⟩ (.nil _); exact this)
  | big c d q r i m j x z hc h hq hr ih1 ih2 =>
    rw [List.reverse_cons, Nat.add_comm]
    refine ih2.append ?_
    have h' := hR _ h
    rw [List.reverse_cons] at ih1
    match hq' : q.reverse ++ [d], ih1 with
    | [], _ => simp at hq'
    | d' :: q', ih1 =>
      have e : (d :: q).reverse = d' :: q' := by rw [List.reverse_cons]; exact hq'
      have h' : ([c], (d :: q).reverse) ∈ R' := h'
      rw [e] at h'
      have := Cst.big (R := R') (b := mB s.reverse) (e := mE s.reverse.length) c d' q' [] (s.length - m) (s.length - i) _ x 0 hc h' ih1 (.nil _)
      exact this
/-- A sign that comes to small ones costs no more than K. -/
def Bd (R : List Rl) (s : List UInt8) (K : Nat) (c : UInt8) : Prop := ∀ i j, i ≤ j → j ≤ s.length → ∃ x, x ≤ K ∧ Cst R (mB s) (mE s.length) [c] i j x
theorem bd_word {R : List Rl} {s : List UInt8} {K : Nat} : ∀ (q : List UInt8), q ≠ [] → (∀ c ∈ q, Bd R s K c) → ∀ i j, i ≤ j → j ≤ s.length → ∃ x, x ≤ q.length * K ∧ Cst R (mB s) (mE s.length) q i j x
  | [], h, _, _, _, _, _ => absurd rfl h
  | [c], _, h, i, j, hi, hj => by
    obtain ⟨x, h1, h2⟩ := h c (by simp) i j hi hj
    exact ⟨x, by simpa using h1, h2⟩
  | c :: d :: q, _, h, i, j, hi, hj => by
    obtain ⟨x, h1, h2⟩ := h c (by simp) i j hi hj
    obtain ⟨y, h3, h4⟩ := bd_word (d :: q) (by simp) (fun a ha => h a (List.mem_cons_of_mem _ ha)) j j (Nat.le_refl _) hj
    have hl : (c :: d :: q).length * K = (d :: q).length * K + K := by rw [List.length_cons, Nat.succ_mul]
    exact ⟨x + y, by rw [hl]; omega, h2.append h4⟩
theorem bd_small {R : List Rl} {s : List UInt8} {K : Nat} (hK : s.length < K) {c : UInt8} (hc : small c = true) : Bd R s K c := fun i j hi hj =>
  ⟨mcost s c i j, by have := mcost_le s c i j; omega, .small c [] i j j _ 0 hc ⟨hi, hj, rfl⟩ (.nil j)⟩
theorem bd_rule {R : List Rl} {s : List UInt8} {K : Nat} (hK : s.length < K) {c : UInt8} {q : List UInt8} (hc : small c = false) (hr : ([c], q) ∈ R) (hq : q.length ≤ 4) (h : ∀ d ∈ q, Bd R s K d) : Bd R s (4 * K) c := fun i j hi hj => by
  cases q with
  | nil => exact ⟨j - i, by omega, .none c [] i j j _ 0 hc hr ⟨hi, hj, rfl⟩ (.nil j)⟩
  | cons d q =>
    obtain ⟨x, h1, h2⟩ := bd_word (d :: q) (by simp) h i j hi hj
    exact ⟨x, Nat.le_trans h1 (Nat.mul_le_mul_right _ hq), .big c d q [] i j j _ 0 hc hr h2 (.nil j)⟩
/-- What costs anything comes to small signs. -/
theorem cst_made {R : List Rl} {b : UInt8 → Nat → Nat → Nat → Prop} {e : Nat → Nat → Nat → Prop} {M : UInt8 → Prop} (hM : ∀ c q, ([c], q) ∈ R → small c = false → (∀ d ∈ q, small d = true ∨ M d) → M c) {l : List UInt8} {i j x : Nat} (h : Cst R b e l i j x) : ∀ d ∈ l, small d = true ∨ M d := by
  induction h with
  | nil i => intro d hd; cases hd
  | small c r i m j x z hc h hr ih =>
    intro d hd
    rcases List.mem_cons.1 hd with rfl | hd
    · exact .inl hc
    · exact ih d hd
  | none c r i m j x z hc h he hr ih =>
    intro d hd
    rcases List.mem_cons.1 hd with rfl | hd
    · exact .inr (hM _ [] h hc (fun _ h => by cases h))
    · exact ih d hd
  | big c d q r i m j x z hc h hq hr ih1 ih2 =>
    intro a ha
    rcases List.mem_cons.1 ha with rfl | ha
    · exact .inr (hM _ _ h hc ih1)
    · exact ih2 a ha
/-! edit distance -/
/-- A text's beginning turned into signs. -/
def Dd (s : List UInt8) (t : List UInt8) (i y : Nat) : Prop := (t = [] ∧ y = i) ∨ (t ≠ [] ∧ Sp (mB s) t 0 i y)
theorem dd_A {s t : List UInt8} {i y : Nat} (c : UInt8) (hi : i < s.length) (h : Dd s t i y) : ∃ z, z ≤ y + (if s[i]? = some c then 0 else 1) ∧ Dd s (t ++ [c]) (i + 1) z := by
  rcases h with ⟨rfl, rfl⟩ | ⟨ht, h⟩
  · exact ⟨mcost s c 0 (y + 1), by have := mcost_hit s c 0 y (Nat.zero_le _); simpa using this, .inr ⟨by simp, (Sp.snoc c [] 0 _ _).2 ⟨0, 0, _, ⟨rfl, rfl⟩, ⟨Nat.zero_le _, by omega, rfl⟩, by omega⟩⟩⟩
  · exact ⟨y + mcost s c i (i + 1), by have := mcost_hit s c i i (Nat.le_refl _); omega, .inr ⟨by simp, (Sp.snoc c t 0 _ _).2 ⟨i, y, _, h, ⟨by omega, by omega, rfl⟩, rfl⟩⟩⟩
theorem dd_B {s t : List UInt8} {i y : Nat} (c : UInt8) (hi : i < s.length) (h : Dd s (t ++ [c]) i y) : ∃ z, z ≤ y + 1 ∧ Dd s (t ++ [c]) (i + 1) z := by
  rcases h with ⟨h, _⟩ | ⟨_, h⟩
  · simp at h
  · obtain ⟨m, a, k, h1, ⟨h2, h3, rfl⟩, rfl⟩ := (Sp.snoc c t 0 _ _).1 h
    exact ⟨a + mcost s c m (i + 1), by have := mcost_next s c m i h2; omega, .inr ⟨by simp, (Sp.snoc c t 0 _ _).2 ⟨m, a, _, h1, ⟨by omega, by omega, rfl⟩, rfl⟩⟩⟩
theorem dd_C {s t : List UInt8} {i y : Nat} (c : UInt8) (hi : i ≤ s.length) (h : Dd s t i y) : ∃ z, z ≤ y + 1 ∧ Dd s (t ++ [c]) i z := by
  rcases h with ⟨rfl, rfl⟩ | ⟨ht, h⟩
  · exact ⟨mcost s c 0 y, by have := mcost_le s c 0 y; omega, .inr ⟨by simp, (Sp.snoc c [] 0 _ _).2 ⟨0, 0, _, ⟨rfl, rfl⟩, ⟨Nat.zero_le _, hi, rfl⟩, by omega⟩⟩⟩
  · exact ⟨y + mcost s c i i, by have := mcost_self s c i; omega, .inr ⟨by simp, (Sp.snoc c t 0 _ _).2 ⟨i, y, _, h, ⟨by omega, hi, rfl⟩, rfl⟩⟩⟩
/-! charts of costs -/
def keysC (n : Nat) : List (UInt8 × Nat × Nat) := [65, 66, 67, 68, 69].flatMap fun c => (List.range (n + 1)).flatMap fun i => (List.range (n + 1)).map fun j => (c, i, j)
theorem big_five {c : UInt8} (h : big c = true) : c ∈ ([65, 66, 67, 68, 69] : List UInt8) := by
  unfold big at h
  simp only [Bool.and_eq_true, decide_eq_true_eq] at h
  obtain ⟨m, hm⟩ : ∃ m, c.toNat = m := ⟨_, rfl⟩
  have hc : c = UInt8.ofNat m := by rw [← hm]; simp
  have : m = 65 ∨ m = 66 ∨ m = 67 ∨ m = 68 ∨ m = 69 := by omega
  rcases this with rfl | rfl | rfl | rfl | rfl <;> subst hc <;> decide
theorem mem_keysC {n i j : Nat} {c : UInt8} (hc : big c = true) (hi : i ≤ n) (hj : j ≤ n) : (c, i, j) ∈ keysC n :=
  List.mem_flatMap.2 ⟨c, big_five hc, List.mem_flatMap.2 ⟨i, List.mem_range.2 (by omega), List.mem_map.2 ⟨j, List.mem_range.2 (by omega), rfl⟩⟩⟩
theorem sumc_le {α : Type} (f g : α → Nat) (h : ∀ a, f a ≤ g a) : ∀ l : List α, (l.map f).sum ≤ (l.map g).sum
  | [] => Nat.le_refl _
  | a :: l => by
    have := sumc_le f g h l
    have := h a
    simp only [List.map_cons, List.sum_cons]
    omega
theorem sumc_lt {α : Type} (f g : α → Nat) (h : ∀ a, f a ≤ g a) : ∀ (l : List α) (a : α), a ∈ l → f a < g a → (l.map f).sum < (l.map g).sum
  | b :: l, a, ha, hlt => by
    simp only [List.map_cons, List.sum_cons]
    rcases List.mem_cons.1 ha with rfl | ha
    · have := sumc_le f g h l
      omega
    · have := sumc_lt f g h l a ha hlt
      have := h b
      omega
section
variable {X : Type} (V : X → UInt8 → Nat → Nat → Nat) (R : List Rl) (b : UInt8 → Nat → Nat → Nat → Prop) (e : Nat → Nat → Nat → Prop) (F n : Nat)
def totC (x : X) : Nat := ((keysC n).map fun z => V x z.1 z.2.1 z.2.2).sum
structure SndC (x : X) : Prop where
  so : ∀ c i j, small c = false → V x c i j < F → Cst R b e [c] i j (V x c i j)
  le : ∀ c i j, V x c i j ≤ F
structure GwC (ch : Bool) (x : X) (ch' : Bool) (y : X) : Prop where
  dn : ∀ c i j, V y c i j ≤ V x c i j
  snd : SndC V R b e F y
  up : ch = true → ch' = true
  less : ch' = true → ch = true ∨ totC V n y < totC V n x
  same : ch' = false → y = x
end
section
variable {X : Type} {V : X → UInt8 → Nat → Nat → Nat} {R : List Rl} {b : UInt8 → Nat → Nat → Nat → Prop} {e : Nat → Nat → Nat → Prop} {F n : Nat}
theorem GwC.refl {ch : Bool} {x : X} (h : SndC V R b e F x) : GwC V R b e F n ch x ch x := ⟨fun _ _ _ => Nat.le_refl _, h, id, .inl, fun _ => rfl⟩
theorem GwC.trans {p q r : Bool} {x y z : X} (h : GwC V R b e F n p x q y) (k : GwC V R b e F n q y r z) : GwC V R b e F n p x r z := by
  refine ⟨fun c i j => Nat.le_trans (k.dn c i j) (h.dn c i j), k.snd, fun h' => k.up (h.up h'), fun h' => ?_, fun h' => ?_⟩
  · rcases k.less h' with hb | hl
    · rcases h.less hb with ha | hl
      · exact .inl ha
      · exact .inr (Nat.lt_of_le_of_lt (sumc_le _ _ (fun z => k.dn _ _ _) _) hl)
    · exact .inr (Nat.lt_of_lt_of_le hl (sumc_le _ _ (fun z => h.dn _ _ _) _))
  · have hb : q = false := by
      cases q with
      | false => rfl
      | true => rw [k.up rfl] at h'; cases h'
    rw [k.same h', h.same hb]
theorem SndC.sg {x : X} (h : SndC V R b e F x) : ∀ c i j v, Sg b F (V x) c i j v → Cst R b e [c] i j v := fun c i j v hv => by
  rcases hv with ⟨h1, h2⟩ | ⟨h1, rfl, h3⟩
  · exact .small c [] i j j v 0 h1 h2 (.nil j)
  · exact h.so c i j h1 h3
/-- A part that costs less. -/
theorem GwC.put {ch : Bool} {x y : X} (h : SndC V R b e F x) {c : UInt8} (hc : big c = true) {i j v : Nat} (hi : i ≤ n) (hj : j ≤ n)
    (hv : Cst R b e [c] i j v) (hlt : v < V x c i j) (hy : ∀ d k m, V y d k m = if d = c ∧ k = i ∧ m = j then v else V x d k m) : GwC V R b e F n ch x true y := by
  have dn : ∀ d k m, V y d k m ≤ V x d k m := fun d k m => by
    rw [hy]; split
    · rename_i hh; obtain ⟨rfl, rfl, rfl⟩ := hh; omega
    · exact Nat.le_refl _
  refine ⟨dn, ⟨fun d k m hd hl => ?_, fun d k m => Nat.le_trans (dn d k m) (h.le d k m)⟩, fun _ => rfl, fun _ => .inr (sumc_lt _ _ (fun z => dn _ _ _) _ (c, i, j) (mem_keysC hc hi hj) ?_), fun h' => by cases h'⟩
  · rw [hy] at hl ⊢
    split at hl
    · rename_i hh; obtain ⟨rfl, rfl, rfl⟩ := hh
      rw [if_pos ⟨rfl, rfl, rfl⟩]
      exact hv
    · rename_i hh
      rw [if_neg hh]
      exact h.so d k m hd hl
  · show V y c i j < V x c i j
    rw [hy, if_pos ⟨rfl, rfl, rfl⟩]; exact hlt
theorem Lst.skip {F x : Nat} {P Q S : Nat → Prop} (h : Lst F P x) (hq : ∀ a b, Q a → S b → F ≤ a + b) : Lst F (fun v => P v ∨ ∃ a b, Q a ∧ S b ∧ v = a + b) x := by
  refine ⟨fun hlt => .inl (h.so hlt), h.le, fun v hv => ?_⟩
  rcases hv with hv | ⟨a, b, ha, hb, rfl⟩
  · exact h.all v hv
  · exact Nat.le_trans h.le (hq a b ha hb)
end
/-! costs of a text -/
theorem mB_le {s : List UInt8} {c : UInt8} {i j x : Nat} (h : mB s c i j x) : i ≤ j ∧ j ≤ s.length := ⟨h.1, h.2.1⟩
theorem cst_le {R : List Rl} {s l : List UInt8} {i j x : Nat} (h : Cst R (mB s) (mE s.length) l i j x) : i ≤ j ∧ (l ≠ [] → j ≤ s.length) := by
  induction h with
  | nil i => exact ⟨Nat.le_refl _, fun h => absurd rfl h⟩
  | small c r i m j x y hc h hr ih =>
    have := mB_le h
    refine ⟨by omega, fun _ => ?_⟩
    cases hr with
    | nil => exact this.2
    | _ => exact ih.2 (by simp)
  | none c r i m j x y hc h he hr ih =>
    obtain ⟨h1, h2, _⟩ := he
    refine ⟨by omega, fun _ => ?_⟩
    cases hr with
    | nil => exact h2
    | _ => exact ih.2 (by simp)
  | big c d q r i m j x y hc h hq hr ih1 ih2 =>
    have h2 := ih1.2 (by simp)
    refine ⟨by omega, fun _ => ?_⟩
    cases hr with
    | nil => exact h2
    | _ => exact ih2.2 (by simp)
section
variable {X : Type} {V : X → UInt8 → Nat → Nat → Nat} {R : List Rl} {s : List UInt8} {F : Nat}
abbrev SgM (s : List UInt8) (F : Nat) (v : UInt8 → Nat → Nat → Nat) := Sg (mB s) F v
theorem SndC.le2 {x : X} (h : SndC V R (mB s) (mE s.length) F x) {c : UInt8} {i j v : Nat} (hv : SgM s F (V x) c i j v) : i ≤ j ∧ j ≤ s.length := by
  have := cst_le (h.sg c i j v hv)
  exact ⟨this.1, this.2 (by simp)⟩
theorem SndC.sp_le {x : X} (h : SndC V R (mB s) (mE s.length) F x) : ∀ {l : List UInt8} {i j v : Nat}, Sp (SgM s F (V x)) l i j v → i ≤ j
  | [], i, j, v, hv => Nat.le_of_eq hv.1
  | c :: l, i, j, v, ⟨m, y, z, h1, h2, _⟩ => Nat.le_trans (h.le2 h1).1 (h.sp_le h2)
/-- What one sign costs. -/
def sgv (s : List UInt8) (v : UInt8 → Nat → Nat → Nat) (c : UInt8) (i j : Nat) : Nat := if small c = true then mcost s c i j else v c i j
theorem sgv_lst {x : X} (h : SndC V R (mB s) (mE s.length) F x) (hF : s.length < F) (c : UInt8) (i j : Nat) (hi : i ≤ j) (hj : j ≤ s.length) : Lst F (SgM s F (V x) c i j) (sgv s (V x) c i j) := by
  unfold sgv
  split
  · rename_i hc
    refine Lst.one (by have := mcost_le s c i j; omega) (.inl ⟨hc, hi, hj, rfl⟩) fun y hy => ?_
    rcases hy with ⟨_, _, _, rfl⟩ | ⟨h1, _⟩
    · rfl
    · rw [hc] at h1; cases h1
  · rename_i hc
    have hc : small c = false := by simpa using hc
    refine ⟨fun hlt => .inr ⟨hc, rfl, hlt⟩, h.le c i j, fun y hy => ?_⟩
    rcases hy with ⟨h1, _⟩ | ⟨_, rfl, _⟩
    · rw [hc] at h1; cases h1
    · exact Nat.le_refl _
/-- Least so far: the last sign begins ahead of place k. -/
def Mid (S : UInt8 → Nat → Nat → Nat → Prop) (p : List UInt8) (c : UInt8) (i k j v : Nat) : Prop := ∃ m, m < k ∧ ∃ a d, Sp S p i m a ∧ S c m j d ∧ v = a + d
theorem mid_next {S : UInt8 → Nat → Nat → Nat → Prop} {p : List UInt8} {c : UInt8} {i k j v : Nat} : Mid S p c i (k + 1) j v ↔ (Mid S p c i k j v ∨ ∃ a d, Sp S p i k a ∧ S c k j d ∧ v = a + d) := by
  constructor
  · rintro ⟨m, hm, a, d, h1, h2, h3⟩
    rcases Nat.lt_or_ge m k with h | h
    · exact .inl ⟨m, h, a, d, h1, h2, h3⟩
    · obtain rfl : m = k := by omega
      exact .inr ⟨a, d, h1, h2, h3⟩
  · rintro (⟨m, hm, h⟩ | h)
    · exact ⟨m, by omega, h⟩
    · exact ⟨k, by omega, h⟩
theorem mid_all {x : X} (h : SndC V R (mB s) (mE s.length) F x) {p : List UInt8} {c : UInt8} {i k j v : Nat} (hk : j < k) : Mid (SgM s F (V x)) p c i k j v ↔ Sp (SgM s F (V x)) (p ++ [c]) i j v := by
  rw [Sp.snoc]
  constructor
  · rintro ⟨m, hm, a, d, h1, h2, h3⟩; exact ⟨m, a, d, h1, h2, h3⟩
  · rintro ⟨m, a, d, h1, h2, h3⟩; exact ⟨m, by have := (h.le2 h2).1; omega, a, d, h1, h2, h3⟩
theorem mid_none {x : X} (h : SndC V R (mB s) (mE s.length) F x) {p : List UInt8} {c : UInt8} {i k j v : Nat} (hk : k ≤ i) : ¬ Mid (SgM s F (V x)) p c i k j v := by
  rintro ⟨m, hm, a, d, h1, h2, h3⟩
  have := h.sp_le h1
  omega
theorem least_all {x : X} (h : SndC V R (mB s) (mE s.length) F x) (hc : ∀ c q i j, ([c], q) ∈ R → small c = false → i ≤ j → j ≤ s.length → ∀ v, Rt (SgM s F (V x)) (mE s.length) q i j v → V x c i j ≤ v) (c : UInt8) (hs : small c = false) (i j : Nat) : Lst F (Cst R (mB s) (mE s.length) [c] i j) (V x c i j) := by
  refine cst_least h.so h.le (fun c q i j v hs hq hv => ?_) c hs i j
  have hle := cst_le (rt_sound h.sg hs hq hv)
  exact hc c q i j hq hs hle.1 (hle.2 (by simp)) v hv
end
/-! least costs: impl -/
abbrev Mi := List (Key × Int)
abbrev IT : Ty := .int .i64
def mci (xs : Mi) (z : Key) : Int := if mhas PT IT xs z = true then mval PT IT xs z else 1073741824
theorem mci_put : ∀ (xs : Mi) (x : Key) (v : Int) (z : Key), mci (mput PT IT xs x v) z = if z = x then v else mci xs z
  | [], x, v, z => by
    show (if (match eqD PT z x with | true => true | false => false) = true then (match eqD PT z x with | true => v | false => _) else _) = _
    rw [eqD_key]
    by_cases h : z = x <;> simp [h, mci, mhas]
  | p :: r, x, v, z => by
    have ih := mci_put r x v z
    unfold mput
    cases hx : eqD PT x p.1 with
    | true =>
      have hx' : x = p.1 := by rw [eqD_key] at hx; exact of_decide_eq_true hx
      dsimp only
      unfold mci mhas mval
      rw [eqD_key, hx']
      by_cases h : z = p.1 <;> simp [h]
    | false =>
      have hx' : ¬ x = p.1 := by rw [eqD_key] at hx; exact of_decide_eq_false hx
      dsimp only
      unfold mci at ih ⊢
      unfold mhas mval
      rw [eqD_key]
      by_cases h : z = p.1
      · have : ¬ z = x := fun e => hx' (e.symm.trans h)
        simp [h, this]
        intro e; exact absurd e.symm hx'
      · simp only [h, decide_false]
        exact ih
def Vi (xs : Mi) (c : UInt8) (i j : Nat) : Nat := (mci xs ([c], (i : Int), (j : Int))).toNat
def NnI (xs : Mi) : Prop := ∀ z, 0 ≤ mci xs z
abbrev FI : Nat := 1073741824
theorem min_ite (a b : Nat) : ifE ((a : Int) < (b : Int)) (a : Int) (b : Int) = ((min b a : Nat) : Int) := by
  unfold ifE
  split <;> omega
section
variable {g : GramT} {s : List UInt8} {xs : Mi}
theorem dof_ev (hs : s.length ≤ 1000) (hn : NnI xs) (c : UInt8) (hc : sign c = true) (i j : Nat) (hij : i ≤ j) (hj : j ≤ s.length) : EvP (fun k => impl_distances_of k g.1 g.2 s xs [c] (i : Int) (j : Int)) (fun r => r = (sgv s (Vi xs) c i j : Int)) := by
  refine EvP.fn (fun k => impl_distances_of_eq k _ _ _ _ _ _ _) (EvP.bind (implSignBig_ev _) fun b hb => ?_)
  have hb : b = big c := hb
  subst hb
  refine EvP.ite (fun hb => ?_) (fun hb => ?_)
  · have hns : small c = false := by
      have := hb
      unfold big at this
      unfold small
      simp only [Bool.and_eq_true, decide_eq_true_eq] at this
      simp only [Bool.and_eq_false_imp, decide_eq_true_eq, decide_eq_false_iff_not]
      omega
    have e : (sgv s (Vi xs) c i j : Int) = mci xs ([c], (i : Int), (j : Int)) := by
      unfold sgv Vi
      rw [if_neg (by simp [hns])]
      have := hn ([c], (i : Int), (j : Int))
      omega
    rw [e]
    unfold mci
    refine EvP.ite (fun h => EvP.now ?_) (fun h => EvP.now ?_)
    · rw [if_pos h]
    · rw [if_neg h]
  · have hsm : small c = true := by unfold sign at hc; simpa [hb] using hc
    have e : sgv s (Vi xs) c i j = mcost s c i j := by unfold sgv; rw [if_pos hsm]
    rw [e]
    have loop : ∀ (q t : Nat), t + q = j → i ≤ t → inP s c i t = false → EvP (fun k => impl_distances_of_L58 k g.1 g.2 s xs [c] (i : Int) (j : Int) (t : Int)) (fun r => r = (mcost s c i j : Int)) := by
      intro q
      induction q with
      | zero =>
        intro t ht hit hno
        obtain rfl : t = j := by omega
        refine EvP.fn (fun k => impl_distances_of_L58_eq k _ _ _ _ _ _ _ _) (EvP.decN (by omega) (EvP.now ?_))
        rw [w64 (by omega) (by omega)]
        have em : mcost s c i t = max 1 (t - i) := by unfold mcost; rw [if_neg (by simp [hno])]
        rw [em]
        unfold ifE
        split <;> omega
      | succ q ih =>
        intro t ht hit hno
        have ew : IntKind.i64.wrap ((t : Int) + 1) = ((t + 1 : Nat) : Int) := w64 (by omega) (by omega)
        refine EvP.fn (fun k => impl_distances_of_L58_eq k _ _ _ _ _ _ _ _) (EvP.decY (by omega) (EvP.yes (by omega) ?_))
        rw [ew]
        refine EvP.yes (by omega) (EvP.yes (by omega) ?_)
        rw [Int.toNat_natCast, Int.toNat_natCast, drop1u s t (by omega)]
        refine EvP.dec (fun h => EvP.now ?_) (fun h => ih (t + 1) (by omega) (by omega) ?_)
        · have hh : inP s c i j = true := (inP_iff s c i j).2 ⟨t, hit, by omega, by rw [getD_some s t (by omega)]; exact congrArg some (List.cons.inj h).1⟩
          unfold mcost
          rw [if_pos hh, w64 (x := (j : Int) - (i : Int)) (by omega) (by omega), w64 (by omega) (by omega)]
          omega
        · rw [inP_next s c i t hit, hno, Bool.false_or, getD_some s t (by omega)]
          exact decide_eq_false (fun h' => h (by rw [Option.some.inj h']))
    exact loop (j - i) i (by omega) (Nat.le_refl _) (by
      cases h : inP s c i i with
      | false => rfl
      | true => obtain ⟨k, h1, h2, _⟩ := (inP_iff s c i i).1 h; omega)
/-- A row of least costs from place i on. -/
def RowI (P : Nat → Nat → Prop) (L : Nat) (row : List Int) : Prop := row.length = L ∧ ∀ u, u < L → ∃ v : Nat, row.getD u 0 = (v : Int) ∧ Lst FI (P u) v
theorem RowI.of {P Q : Nat → Nat → Prop} {L : Nat} {row : List Int} (h : RowI P L row) (k : ∀ u v, u < L → Lst FI (P u) v → Lst FI (Q u) v) : RowI Q L row :=
  ⟨h.1, fun u hu => by obtain ⟨v, h1, h2⟩ := h.2 u hu; exact ⟨v, h1, k u v hu h2⟩⟩
theorem getD_set' {α : Type} (l : List α) (i j : Nat) (a d : α) (hi : i < l.length) : (l.set i a).getD j d = if j = i then a else l.getD j d := by
  rw [List.getD_eq_getElem?_getD, List.getD_eq_getElem?_getD, List.getElem?_set]
  by_cases h : i = j
  · subst h; simp [hi]
  · rw [if_neg h, if_neg (fun e => h e.symm)]
theorem repeat_ev (v : Int) (n : Nat) (h1 : 1 ≤ n) (h2 : n ≤ 100000) : EvP (fun k => slices_Repeat_Sint_int k [v] (n : Int)) (fun r => r = List.replicate n v) :=
  EvP.fn (fun k => slices_Repeat_Sint_int_eq k _ _) (EvP.yes ⟨rfl, by omega, by omega⟩ (EvP.now (by rw [Int.toNat_natCast]; rfl)))
theorem inner_ev {R : List Rl} (hs : s.length ≤ 1000) (hS : SndC Vi R (mB s) (mE s.length) FI xs) (hn : NnI xs) (q : List UInt8) (hq : q.length ≤ 1000) (t : Nat) (ht : t < q.length) (hc : sign (q.getD t 0) = true) (i j : Nat) (hij : i ≤ j) (hj : j ≤ s.length) (kk : Nat) (hk : kk < j - i + 1) (f : Nat) (hf : Lst FI (Sp (SgM s FI (Vi xs)) (q.take t) i (i + kk)) f)
    (a12 a13 : Int) (best : List Int) (a15 : Int) {P : Int → Prop}
    (nx : ∀ next, RowI (fun u => Mid (SgM s FI (Vi xs)) (q.take t) (q.getD t 0) i (i + (kk + 1)) (i + u)) (j - i + 1) next → EvP (fun k => impl_distances_rule_L125338 k g.1 g.2 s xs q (i : Int) (j : Int) (t : Int) next a12 a13 best a15 ((kk + 1 : Nat) : Int)) P) :
    ∀ (m u : Nat), u + m = j - i + 1 → kk ≤ u → ∀ next, RowI (fun w => Mid (SgM s FI (Vi xs)) (q.take t) (q.getD t 0) i (i + (if w < u then kk + 1 else kk)) (i + w)) (j - i + 1) next → EvP (fun k => impl_distances_rule_L64173262 k g.1 g.2 s xs q (i : Int) (j : Int) (t : Int) next (kk : Int) (f : Int) (u : Int) a12 a13 best a15 (kk : Int)) P
  | 0, u, hu, hku, next, hr => by
    refine EvP.fn (fun k => impl_distances_rule_L64173262_eq k _ _ _ _ _ _ _ _ _ _ _ _ _ _ _ _ _) (EvP.decN (by have := hr.1; omega) ?_)
    rw [w64 (by omega) (by omega)]
    exact nx next (hr.of fun w v hw h => by rw [if_pos (by omega)] at h; exact h)
  | m + 1, u, hu, hku, next, hr => by
    have hl := hr.1
    obtain ⟨v, hv1, hv2⟩ := hr.2 u (by omega)
    have ew : IntKind.i64.wrap ((u : Int) + 1) = ((u + 1 : Nat) : Int) := w64 (by omega) (by omega)
    have et : IntKind.i64.wrap ((t : Int) + 1) = ((t + 1 : Nat) : Int) := w64 (by omega) (by omega)
    have ei : IntKind.i64.wrap ((i : Int) + (kk : Int)) = ((i + kk : Nat) : Int) := w64 (by omega) (by omega)
    have ej : IntKind.i64.wrap ((i : Int) + (u : Int)) = ((i + u : Nat) : Int) := w64 (by omega) (by omega)
    refine EvP.fn (fun k => impl_distances_rule_L64173262_eq k _ _ _ _ _ _ _ _ _ _ _ _ _ _ _ _ _) (EvP.decY (by omega) (EvP.yes (by omega) (EvP.yes (by omega) (EvP.yes (by omega) ?_))))
    rw [ew, et, ei, ej]
    refine EvP.yes (by omega) (EvP.yes (by omega) ?_)
    rw [Int.toNat_natCast, Int.toNat_natCast, drop1u q t ht]
    refine EvP.bind (dof_ev hs hn _ hc (i + kk) (i + u) (by omega) (by omega)) fun x hx => ?_
    subst hx
    have hsg := sgv_lst hS (by show s.length < 1073741824; omega) (q.getD t 0) (i + kk) (i + u) (by omega) (by omega)
    have hle : _ ≤ 1073741824 := hsg.le
    have hfl : f ≤ 1073741824 := hf.le
    refine EvP.yes (by omega) (EvP.yes (by omega) ?_)
    rw [Int.toNat_natCast, hv1, w64 (by omega) (by omega), ← Int.natCast_add, min_ite]
    refine inner_ev hs hS hn q hq t ht hc i j hij hj kk hk f hf a12 a13 best a15 nx m (u + 1) (by omega) (by omega) _ ⟨by rw [List.length_set]; exact hl, fun w hw => ?_⟩
    rw [getD_set' _ _ _ _ _ (by omega)]
    by_cases hwu : w = u
    · subst hwu
      rw [if_pos rfl]
      have hv2 : Lst FI (Mid (SgM s FI (Vi xs)) (q.take t) (q.getD t 0) i (i + (if w < w then kk + 1 else kk)) (i + w)) v := hv2
      rw [if_neg (by omega)] at hv2
      refine ⟨_, rfl, ?_⟩
      show Lst FI (Mid (SgM s FI (Vi xs)) (q.take t) (q.getD t 0) i (i + (if w < w + 1 then kk + 1 else kk)) (i + w)) _
      rw [if_pos (by omega)]
      exact (hv2.step hf hsg).congr fun y => mid_next.symm
    · rw [if_neg hwu]
      obtain ⟨v', h1, h2⟩ := hr.2 w hw
      refine ⟨v', h1, ?_⟩
      have h2 : Lst FI (Mid (SgM s FI (Vi xs)) (q.take t) (q.getD t 0) i (i + (if w < u then kk + 1 else kk)) (i + w)) v' := h2
      show Lst FI (Mid (SgM s FI (Vi xs)) (q.take t) (q.getD t 0) i (i + (if w < u + 1 then kk + 1 else kk)) (i + w)) v'
      by_cases hlt : w < u
      · rw [if_pos hlt] at h2; rw [if_pos (by omega)]; exact h2
      · rw [if_neg hlt] at h2; rw [if_neg (by omega)]; exact h2
theorem mids_ev {R : List Rl} (hs : s.length ≤ 1000) (hS : SndC Vi R (mB s) (mE s.length) FI xs) (hn : NnI xs) (q : List UInt8) (hq : q.length ≤ 1000) (t : Nat) (ht : t < q.length) (hc : sign (q.getD t 0) = true) (i j : Nat) (hij : i ≤ j) (hj : j ≤ s.length) (best : List Int) (hb : RowI (fun u => Sp (SgM s FI (Vi xs)) (q.take t) i (i + u)) (j - i + 1) best) {P : Int → Prop}
    (nx : ∀ next, RowI (fun u => Sp (SgM s FI (Vi xs)) (q.take (t + 1)) i (i + u)) (j - i + 1) next → EvP (fun k => impl_distances_rule_L122 k g.1 g.2 s xs q (i : Int) (j : Int) next (q.length : Int) ((t + 1 : Nat) : Int)) P) :
    ∀ (m kk : Nat), kk + m = j - i + 1 → ∀ next, RowI (fun w => Mid (SgM s FI (Vi xs)) (q.take t) (q.getD t 0) i (i + kk) (i + w)) (j - i + 1) next → EvP (fun k => impl_distances_rule_L125338 k g.1 g.2 s xs q (i : Int) (j : Int) (t : Int) next (q.length : Int) (t : Int) best (best.length : Int) (kk : Int)) P
  | 0, kk, hk, next, hr => by
    refine EvP.fn (fun k => impl_distances_rule_L125338_eq k _ _ _ _ _ _ _ _ _ _ _ _ _ _) (EvP.decN (by have := hb.1; omega) ?_)
    rw [w64 (by omega) (by omega)]
    have e : q.take (t + 1) = q.take t ++ [q.getD t 0] := by
      rw [List.take_add_one, List.getD_eq_getElem?_getD, List.getElem?_eq_getElem ht]; rfl
    exact nx next (hr.of fun w v hw h => by rw [e]; exact h.congr fun y => mid_all hS (by omega))
  | m + 1, kk, hk, next, hr => by
    have hl := hb.1
    obtain ⟨f, hf1, hf2⟩ := hb.2 kk (by omega)
    have ek : IntKind.i64.wrap ((kk : Int) + 1) = ((kk + 1 : Nat) : Int) := w64 (by omega) (by omega)
    refine EvP.fn (fun k => impl_distances_rule_L125338_eq k _ _ _ _ _ _ _ _ _ _ _ _ _ _) (EvP.decY (by omega) (EvP.yes (by omega) (EvP.yes (by omega) ?_)))
    rw [Int.toNat_natCast, hf1, ek]
    refine EvP.dec (fun h => ?_) (fun h => ?_)
    · have hF : f = FI := by show f = 1073741824; omega
      subst hF
      refine mids_ev hs hS hn q hq t ht hc i j hij hj best hb nx m (kk + 1) (by omega) next (hr.of fun w v hw h => ?_)
      exact (h.skip (Q := Sp (SgM s FI (Vi xs)) (q.take t) i (i + kk)) (S := SgM s FI (Vi xs) (q.getD t 0) (i + kk) (i + w)) (fun a b ha _ => by have := hf2.all a ha; omega)).congr fun y => mid_next.symm
    · refine inner_ev hs hS hn q hq t ht hc i j hij hj kk (by omega) f hf2 _ _ best _ (fun next' hn' => mids_ev hs hS hn q hq t ht hc i j hij hj best hb nx m (kk + 1) (by omega) next' hn') (j - i + 1 - kk) kk (by omega) (Nat.le_refl _) next (hr.of fun w v hw h => ?_)
      by_cases hlt : w < kk
      · rw [if_pos hlt]
        exact (h.skip (Q := Sp (SgM s FI (Vi xs)) (q.take t) i (i + kk)) (S := SgM s FI (Vi xs) (q.getD t 0) (i + kk) (i + w)) (fun a b _ hb => by have := (hS.le2 hb).1; omega)).congr fun y => mid_next.symm
      · rw [if_neg hlt]; exact h
theorem rule_ev {R : List Rl} (hs : s.length ≤ 1000) (hS : SndC Vi R (mB s) (mE s.length) FI xs) (hn : NnI xs) (q : List UInt8) (hq : q.length ≤ 1000) (hsg : q.all sign = true) (i j : Nat) (hij : i ≤ j) (hj : j ≤ s.length) :
    EvP (fun k => impl_distances_rule k g.1 g.2 s xs q (i : Int) (j : Int)) (fun r => ∃ v : Nat, r = (v : Int) ∧ Lst FI (Rt (SgM s FI (Vi xs)) (mE s.length) q i j) v) := by
  have e1 : IntKind.i64.wrap (IntKind.i64.wrap ((j : Int) - (i : Int)) + 1) = ((j - i + 1 : Nat) : Int) := by rw [w64 (x := (j : Int) - (i : Int)) (by omega) (by omega), w64 (by omega) (by omega)]; omega
  have e2 : IntKind.i64.wrap ((j : Int) - (i : Int)) = ((j - i : Nat) : Int) := by rw [w64 (by omega) (by omega)]; omega
  have signs : ∀ (m t : Nat), t + m = q.length → ∀ best, RowI (fun u => Sp (SgM s FI (Vi xs)) (q.take t) i (i + u)) (j - i + 1) best → EvP (fun k => impl_distances_rule_L122 k g.1 g.2 s xs q (i : Int) (j : Int) best (q.length : Int) (t : Int)) (fun r => ∃ v : Nat, r = (v : Int) ∧ Lst FI (Rt (SgM s FI (Vi xs)) (mE s.length) q i j) v) := by
    intro m
    induction m with
    | zero =>
      intro t ht best hb
      obtain rfl : t = q.length := by omega
      rw [List.take_length] at hb
      refine EvP.fn (fun k => impl_distances_rule_L122_eq k _ _ _ _ _ _ _ _ _ _) (EvP.decN (by omega) ?_)
      rw [e2]
      refine EvP.dec (fun h => EvP.now ⟨_, rfl, ?_⟩) (fun h => EvP.yes (by omega) (EvP.yes (by have := hb.1; omega) (EvP.now ?_)))
      · have h : q = [] := h
        subst h
        exact Lst.one (by show j - i ≤ 1073741824; omega) ⟨hij, hj, rfl⟩ (fun y hy => hy.2.2)
      · rw [Int.toNat_natCast]
        obtain ⟨v, h1, h2⟩ := hb.2 (j - i) (by omega)
        refine ⟨v, h1, ?_⟩
        have e : i + (j - i) = j := by omega
        have h2 : Lst FI (Sp (SgM s FI (Vi xs)) q i (i + (j - i))) v := h2
        rw [e] at h2
        cases q with
        | nil => exact absurd rfl h
        | cons c q => exact h2
    | succ m ih =>
      intro t ht best hb
      refine EvP.fn (fun k => impl_distances_rule_L122_eq k _ _ _ _ _ _ _ _ _ _) (EvP.decY (by omega) ?_)
      rw [e1]
      refine EvP.bind (repeat_ev _ _ (by omega) (by omega)) fun x hx => ?_
      subst hx
      refine mids_ev hs hS hn q hq t (by omega) (List.all_eq_true.1 hsg _ (getD_mem q t 0 (by omega))) i j hij hj best hb (fun next hn' => ih (t + 1) (by omega) next hn') (j - i + 1) 0 (by omega) _ ⟨List.length_replicate, fun u hu => ⟨FI, ?_, Lst.none fun y => mid_none hS (Nat.le_refl _)⟩⟩
      rw [List.getD_eq_getElem?_getD, List.getElem?_replicate, if_pos hu]; rfl
  refine EvP.fn (fun k => impl_distances_rule_eq k _ _ _ _ _ _ _) ?_
  rw [e1]
  refine EvP.bind (repeat_ev _ _ (by omega) (by omega)) fun x hx => ?_
  subst hx
  refine EvP.yes (by omega) (EvP.yes (by rw [List.length_replicate]; omega) (signs q.length 0 (Nat.zero_add _) _ ⟨by rw [List.length_set]; exact List.length_replicate, fun u hu => ?_⟩))
  have z0 : Int.toNat 0 = 0 := rfl
  rw [z0, getD_set' _ _ _ _ _ (by rw [List.length_replicate]; omega)]
  by_cases h0 : u = 0
  · subst h0
    exact ⟨0, rfl, Lst.one (Nat.zero_le _) ⟨rfl, rfl⟩ fun y hy => hy.2⟩
  · refine ⟨FI, ?_, Lst.none fun y hy => ?_⟩
    · rw [if_neg h0, List.getD_eq_getElem?_getD, List.getElem?_replicate, if_pos hu]; rfl
    · have : i = i + u := hy.1
      omega
end
/-! least costs: impl's chart -/
/-- A rule brings nothing. -/
def ShutC {X : Type} (V : X → UInt8 → Nat → Nat → Nat) (s : List UInt8) (F : Nat) (x : X) (r : Rl) (i j : Nat) : Prop := ∀ c, r.1 = [c] → ∀ v, Rt (SgM s F (V x)) (mE s.length) r.2 i j v → V x c i j ≤ v
theorem big_not {c : UInt8} (hb : big c = true) : small c = false := by
  unfold big at hb
  unfold small
  simp only [Bool.and_eq_true, decide_eq_true_eq] at hb
  simp only [Bool.and_eq_false_imp, decide_eq_true_eq, decide_eq_false_iff_not]
  omega
def FineM (R : List Rl) : Prop := ∀ x ∈ R, (∃ c, x.1 = [c] ∧ big c = true) ∧ x.2.length ≤ 4 ∧ x.2.all sign = true
theorem fineM_of {g : GramT} (h : GramOkP g) : FineM g.2 := by
  intro x hx
  obtain ⟨j, hj, rfl⟩ := List.mem_iff_getElem.1 hx
  have := (h.2.2 j hj).1
  rw [List.getD_eq_getElem?_getD, List.getElem?_eq_getElem hj] at this
  have this : ruleOk g.2[j] = true := this
  unfold ruleOk at this
  simp only [Bool.and_eq_true, decide_eq_true_eq] at this
  obtain ⟨h1, h2, h3⟩ := this
  refine ⟨?_, h3, h2⟩
  match hx : g.2[j].1, h1 with
  | [c], h1 => exact ⟨c, rfl, h1⟩
theorem least_closed {X : Type} {V : X → UInt8 → Nat → Nat → Nat} {R : List Rl} {s : List UInt8} {F : Nat} {x : X} (h : SndC V R (mB s) (mE s.length) F x) (hc : ∀ r ∈ R, ∀ i j, i ≤ j → j ≤ s.length → ShutC V s F x r i j) (c : UInt8) (hs : small c = false) (i j : Nat) : Lst F (Cst R (mB s) (mE s.length) [c] i j) (V x c i j) :=
  least_all h (fun c q i j hq _ hij hj v hv => hc _ hq i j hij hj c rfl v hv) c hs i j
abbrev GwJ (R : List Rl) (s : List UInt8) := GwC Vi R (mB s) (mE s.length) FI s.length
abbrev GM := List UInt8 × List Rl × List UInt8 × Mi
section
variable {g : GramT} {s : List UInt8} {xs0 : Mi}
theorem vi_put (xs : Mi) (c : UInt8) (i j v : Nat) (d : UInt8) (k m : Nat) : Vi (mput PT IT xs ([c], (i : Int), (j : Int)) (v : Int)) d k m = if d = c ∧ k = i ∧ m = j then v else Vi xs d k m := by
  unfold Vi
  rw [mci_put]
  by_cases h : d = c ∧ k = i ∧ m = j
  · obtain ⟨rfl, rfl, rfl⟩ := h
    rw [if_pos rfl, if_pos ⟨rfl, rfl, rfl⟩, Int.toNat_natCast]
  · rw [if_neg h, if_neg]
    intro e
    simp only [Prod.mk.injEq, List.cons.injEq, and_true] at e
    exact h ⟨e.1, by omega, by omega⟩
theorem rulesJ (hR : FineM g.2) (hg : g.2.length ≤ 1000) (hs : s.length ≤ 1000) {i j : Nat} (hij : i ≤ j) (hj : j ≤ s.length) (D : Prop) {P : Int → Prop}
    (nx : ∀ xs ch, GwJ g.2 s false xs0 ch xs → NnI xs → (ch = false → D ∧ ∀ r ∈ g.2, ShutC Vi s FI xs0 r i j) → EvP (fun k => impl_farFrom_L238994 k s g (g.1, g.2, s, xs) ch (i : Int) ((j + 1 : Nat) : Int)) P) :
    ∀ (n q : Nat), q + n = g.2.length → ∀ xs ch, GwJ g.2 s false xs0 ch xs → NnI xs → (ch = false → D ∧ ∀ r ∈ g.2.take q, ShutC Vi s FI xs0 r i j) → EvP (fun k => impl_farFrom_L15295634 k s g (g.1, g.2, s, xs) ch (i : Int) (j : Int) g.2 (g.2.length : Int) (q : Int)) P
  | 0, q, h, xs, ch, hw, hn, hd => by
    refine EvP.fn (fun k => impl_farFrom_L15295634_eq k _ _ _ _ _ _ _ _ _) (EvP.decN (by omega) ?_)
    rw [w64 (by omega) (by omega)]
    rw [List.take_of_length_le (by omega)] at hd
    exact nx xs ch hw hn hd
  | n + 1, q, h, xs, ch, hw, hn, hd => by
    have hm := getD_mem g.2 q ([], []) (by omega)
    obtain ⟨⟨c, hc, hb⟩, hlen, hsg⟩ := hR _ hm
    have hns := big_not hb
    have e : g.2.take (q + 1) = g.2.take q ++ [g.2.getD q ([], [])] := by
      rw [List.take_add_one, List.getD_eq_getElem?_getD, List.getElem?_eq_getElem (show q < g.2.length by omega)]; rfl
    have ew : IntKind.i64.wrap ((q : Int) + 1) = ((q + 1 : Nat) : Int) := w64 (by omega) (by omega)
    refine EvP.fn (fun k => impl_farFrom_L15295634_eq k _ _ _ _ _ _ _ _ _) (EvP.decY (by omega) (EvP.yes (by omega) (EvP.yes (by omega) ?_)))
    rw [ew, Int.toNat_natCast, hc]
    refine EvP.bind (rule_ev hs hw.snd hn _ (by omega) hsg i j hij hj) fun x hx => EvP.bind (dof_ev hs hn c (by unfold sign; rw [hb]; rfl) i j hij hj) fun y hy => ?_
    obtain ⟨v, rfl, hv⟩ := hx
    have e2 : sgv s (Vi xs) c i j = Vi xs c i j := by unfold sgv; rw [if_neg (by simp [hns])]
    rw [e2] at hy
    subst hy
    refine EvP.dec (fun hlt => ?_) (fun hno => ?_)
    · have hlt : v < Vi xs c i j := by omega
      have hF := hw.snd.le c i j
      have hw2 : GwJ g.2 s ch xs true (mput PT IT xs ([c], (i : Int), (j : Int)) (v : Int)) :=
        GwC.put hw.snd hb (by omega) (by omega) (rt_sound hw.snd.sg hns (by rw [← hc]; exact hm) (hv.so (by omega))) hlt (vi_put xs c i j v)
      exact rulesJ hR hg hs hij hj D nx n (q + 1) (by omega) _ true (hw.trans hw2) (fun z => by
        rw [mci_put]; split
        · omega
        · exact hn z) fun h => by cases h
    · refine rulesJ hR hg hs hij hj D nx n (q + 1) (by omega) xs ch hw hn fun hch => ⟨(hd hch).1, fun r hr => ?_⟩
      rw [e] at hr
      rcases List.mem_append.1 hr with hr | hr
      · exact (hd hch).2 r hr
      · rw [List.mem_singleton.1 hr, ← hw.same hch]
        intro d hd' v' hv'
        have : d = c := by rw [hc] at hd'; exact (List.cons.inj hd').1.symm
        subst this
        have := hv.all v' hv'
        omega
theorem tosJ (hR : FineM g.2) (hg : g.2.length ≤ 1000) (hs : s.length ≤ 1000) {i : Nat} (hi : i ≤ s.length) (D : Prop) {P : Int → Prop}
    (nx : ∀ xs ch, GwJ g.2 s false xs0 ch xs → NnI xs → (ch = false → D ∧ ∀ r ∈ g.2, ∀ b, i ≤ b → b ≤ s.length → ShutC Vi s FI xs0 r i b) → EvP (fun k => impl_farFrom_L3734 k s g (g.1, g.2, s, xs) ch ((i : Int) - 1)) P) :
    ∀ (n j : Nat), j + n = s.length + 1 → i ≤ j → ∀ xs ch, GwJ g.2 s false xs0 ch xs → NnI xs → (ch = false → D ∧ ∀ r ∈ g.2, ∀ b, i ≤ b → b < j → ShutC Vi s FI xs0 r i b) → EvP (fun k => impl_farFrom_L238994 k s g (g.1, g.2, s, xs) ch (i : Int) (j : Int)) P
  | 0, j, h, hij, xs, ch, hw, hn, hd => by
    refine EvP.fn (fun k => impl_farFrom_L238994_eq k _ _ _ _ _ _) (EvP.decN (by omega) ?_)
    rw [w64 (by omega) (by omega)]
    exact nx xs ch hw hn fun hch => ⟨(hd hch).1, fun r hr b h1 h2 => (hd hch).2 r hr b h1 (by omega)⟩
  | n + 1, j, h, hij, xs, ch, hw, hn, hd => by
    refine EvP.fn (fun k => impl_farFrom_L238994_eq k _ _ _ _ _ _) (EvP.decY (by omega) ?_)
    refine rulesJ hR hg hs hij (by omega) (D ∧ ∀ r ∈ g.2, ∀ b, i ≤ b → b < j → ShutC Vi s FI xs0 r i b) (fun xs' ch' hw' hn' hd' => tosJ hR hg hs hi D nx n (j + 1) (by omega) (by omega) xs' ch' hw' hn' fun hch => ⟨(hd' hch).1.1, fun r hr b h1 h2 => ?_⟩) g.2.length 0 (Nat.zero_add _) xs ch hw hn (fun hch => ⟨hd hch, fun r hr => by cases hr⟩)
    rcases Nat.lt_or_ge b j with hb | hb
    · exact (hd' hch).1.2 r hr b h1 hb
    · obtain rfl : b = j := by omega
      exact (hd' hch).2 r hr
theorem fromsJ (hR : FineM g.2) (hg : g.2.length ≤ 1000) (hs : s.length ≤ 1000) {P : Int → Prop}
    (nx : ∀ xs ch, GwJ g.2 s false xs0 ch xs → NnI xs → (ch = false → ∀ r ∈ g.2, ∀ a b, a ≤ b → b ≤ s.length → ShutC Vi s FI xs0 r a b) → EvP (fun k => impl_farFrom_L58 k s g (g.1, g.2, s, xs) ch) P) :
    ∀ (i : Nat), i ≤ s.length + 1 → ∀ xs ch, GwJ g.2 s false xs0 ch xs → NnI xs → (ch = false → ∀ r ∈ g.2, ∀ a b, i ≤ a → a ≤ b → b ≤ s.length → ShutC Vi s FI xs0 r a b) → EvP (fun k => impl_farFrom_L3734 k s g (g.1, g.2, s, xs) ch ((i : Int) - 1)) P
  | 0, h, xs, ch, hw, hn, hd => EvP.fn (fun k => impl_farFrom_L3734_eq k _ _ _ _ _) (EvP.decN (by omega) (nx xs ch hw hn fun hch r hr a b h1 h2 => hd hch r hr a b (Nat.zero_le _) h1 h2))
  | i + 1, h, xs, ch, hw, hn, hd => by
    have e : (((i + 1 : Nat) : Int) - 1) = (i : Int) := by omega
    rw [e]
    refine EvP.fn (fun k => impl_farFrom_L3734_eq k _ _ _ _ _) (EvP.decY (by omega) ?_)
    refine tosJ hR hg hs (by omega) (∀ r ∈ g.2, ∀ a b, i + 1 ≤ a → a ≤ b → b ≤ s.length → ShutC Vi s FI xs0 r a b) (fun xs' ch' hw' hn' hd' => fromsJ hR hg hs nx i (by omega) xs' ch' hw' hn' fun hch r hr a b h1 h2 h3 => ?_) (s.length + 1 - i) i (by omega) (Nat.le_refl _) xs ch hw hn (fun hch => ⟨hd hch, fun r hr b h1 h2 => by omega⟩)
    rcases Nat.eq_or_lt_of_le h1 with rfl | h1
    · exact (hd' hch).2 r hr b h2 h3
    · exact (hd' hch).1 r hr a b h1 h2 h3
theorem whileJ (hR : FineM g.2) (hg : g.2.length ≤ 1000) (hs : s.length ≤ 1000) {c : UInt8} (hg1 : g.1 = [c]) (hb : big c = true) : ∀ (n : Nat) (xs : Mi), SndC Vi g.2 (mB s) (mE s.length) FI xs → NnI xs → totC Vi s.length xs ≤ n → EvP (fun k => impl_farFrom_L58 k s g (g.1, g.2, s, xs) true) (fun r => ∃ v : Nat, r = (v : Int) ∧ Lst FI (Cst g.2 (mB s) (mE s.length) [c] 0 s.length) v) := by
  intro n
  have fin : ∀ (xs : Mi), SndC Vi g.2 (mB s) (mE s.length) FI xs → NnI xs → (∀ r ∈ g.2, ∀ a b, a ≤ b → b ≤ s.length → ShutC Vi s FI xs r a b) → EvP (fun k => impl_farFrom_L58 k s g (g.1, g.2, s, xs) false) (fun r => ∃ v : Nat, r = (v : Int) ∧ Lst FI (Cst g.2 (mB s) (mE s.length) [c] 0 s.length) v) := by
    intro xs hsn hn hd
    refine EvP.fn (fun k => impl_farFrom_L58_eq k _ _ _ _) (EvP.no (by simp) ?_)
    rw [hg1]
    refine EvP.bind (dof_ev (g := ([c], g.2)) hs hn c (by unfold sign; rw [hb]; rfl) 0 s.length (Nat.zero_le _) (Nat.le_refl _)) fun x hx => EvP.now ⟨_, hx, ?_⟩
    have e2 : sgv s (Vi xs) c 0 s.length = Vi xs c 0 s.length := by unfold sgv; rw [if_neg (by simp [big_not hb])]
    rw [e2]
    exact least_closed hsn hd c (big_not hb) 0 s.length
  have e : (((s.length + 1 : Nat) : Int) - 1) = (s.length : Int) := by omega
  induction n with
  | zero =>
    intro xs hsn hn hle
    refine EvP.fn (fun k => impl_farFrom_L58_eq k _ _ _ _) (EvP.yes rfl ?_)
    rw [← e]
    refine fromsJ (xs0 := xs) hR hg hs (fun xs' ch' hw hn' hd => ?_) (s.length + 1) (Nat.le_refl _) xs false (GwC.refl hsn) hn (fun _ r hr a b h1 h2 h3 => by omega)
    cases ch' with
    | true => rcases hw.less rfl with h | h
              · cases h
              · omega
    | false => rw [hw.same rfl]; exact fin xs hsn hn (hd rfl)
  | succ n ih =>
    intro xs hsn hn hle
    refine EvP.fn (fun k => impl_farFrom_L58_eq k _ _ _ _) (EvP.yes rfl ?_)
    rw [← e]
    refine fromsJ (xs0 := xs) hR hg hs (fun xs' ch' hw hn' hd => ?_) (s.length + 1) (Nat.le_refl _) xs false (GwC.refl hsn) hn (fun _ r hr a b h1 h2 h3 => by omega)
    cases ch' with
    | true => rcases hw.less rfl with h | h
              · cases h
              · exact ih xs' hw.snd hn' (by omega)
    | false => rw [hw.same rfl]; exact fin xs hsn hn (hd rfl)
end
theorem mci_nil (z : Key) : mci [] z = 1073741824 := rfl
theorem implMend_ev (g : GramT) (s : List UInt8) : EvP (fun k => impl_MendFar k g.1 g.2 s) (fun r => (GramOkP g ∧ textOk s = true → ∃ v : Nat, Lst FI (Cst g.2 (mB s) (mE s.length) g.1 0 s.length) v ∧ r = if v < FI then (v : Int) else -1) ∧ (¬ (GramOkP g ∧ textOk s = true) → r = -1)) := by
  refine EvP.fn (fun k => impl_MendFar_eq k _ _ _) (EvP.bind (P := fun r => r = true ↔ GramOkP g ∧ textOk s = true) (EvP.fn (fun k => impl_areBoth_eq k _ _ _) (EvP.bind (implGramOk_ev g) fun b hb => EvP.ite (fun h => EvP.bind (implTextOk_ev s) fun c hc => EvP.now ?_) (fun h => EvP.now ?_))) fun b hb => ?_)
  · rw [hc]; exact ⟨fun h' => ⟨hb.1 h, h'⟩, fun h' => h'.2⟩
  · exact ⟨fun h' => (by cases h'), fun h' => absurd (hb.2 h'.1) h⟩
  · refine EvP.ite (fun h => EvP.now ⟨fun h' => ?_, fun _ => rfl⟩) (fun h => ?_)
    · rw [hb.2 h'] at h; cases h
    · have hok := hb.1 (by simpa using h)
      have hR := fineM_of hok.1
      have hg := hok.1.2.1
      have hl : s.length ≤ 8 := by
        have := hok.2
        unfold textOk at this
        simp only [Bool.and_eq_true, decide_eq_true_eq] at this
        exact this.2
      obtain ⟨c, hc, hb1⟩ : ∃ c, g.1 = [c] ∧ big c = true := by
        have := hok.1.1
        match h1 : g.1, this with
        | [c], this => exact ⟨c, rfl, this⟩
      have n0 : NnI [] := fun z => by rw [mci_nil]; omega
      have v0 : ∀ c i j, Vi [] c i j = FI := fun c i j => rfl
      refine EvP.bind (EvP.fn (fun k => impl_farFrom_eq k _ _ _) (whileJ hR (by omega) (by omega) hc hb1 _ [] ⟨fun c i j _ h => by rw [v0] at h; exact absurd h (Nat.lt_irrefl _), fun c i j => by rw [v0]; exact Nat.le_refl _⟩ n0 (Nat.le_refl _))) fun x hx => ?_
      obtain ⟨v, rfl, hv⟩ := hx
      rw [← hc] at hv
      refine EvP.dec (fun h' => EvP.now ⟨fun _ => ⟨v, hv, ?_⟩, fun h2 => absurd hok h2⟩) (fun h' => EvP.now ⟨fun _ => ⟨v, hv, ?_⟩, fun h2 => absurd hok h2⟩)
      · rw [if_neg (by show ¬ v < 1073741824; omega)]; rfl
      · rw [if_pos (by show v < 1073741824; omega)]
/-! least costs: spec -/
abbrev CubeI := List (List (List Int))
abbrev FS : Nat := 100000
def cgi (x : CubeI) (k i j : Nat) : Int := ((x.getD k []).getD i []).getD j 100000
def Vs (x : CubeI) (c : UInt8) (i j : Nat) : Nat := if 65 ≤ c.toNat then (cgi x (c.toNat - 65) i j).toNat else 100000
structure CubeK (n : Nat) (x : CubeI) : Prop where
  l1 : x.length = 5
  l2 : ∀ k, k < 5 → (x.getD k []).length = n
  l3 : ∀ k, k < 5 → ∀ i, i < n → ((x.getD k []).getD i []).length = n
  nn : ∀ k i j, 0 ≤ cgi x k i j
def csi (x : CubeI) (k i j : Nat) (v : Int) : CubeI := x.set k ((x.getD k []).set i (((x.getD k []).getD i []).set j v))
theorem cgi_csi {n : Nat} {x : CubeI} (hx : CubeK n x) {k i j : Nat} (hk : k < 5) (hi : i < n) (hj : j < n) (v : Int) (a b c : Nat) : cgi (csi x k i j v) a b c = if a = k ∧ b = i ∧ c = j then v else cgi x a b c := by
  unfold cgi csi
  rw [getD_set' _ _ _ _ _ (by rw [hx.l1]; exact hk)]
  by_cases h1 : a = k
  · subst h1
    rw [if_pos rfl, getD_set' _ _ _ _ _ (by rw [hx.l2 a hk]; exact hi)]
    by_cases h2 : b = i
    · subst h2
      rw [if_pos rfl, getD_set' _ _ _ _ _ (by rw [hx.l3 a hk b hi]; exact hj)]
      by_cases h3 : c = j
      · subst h3; simp
      · rw [if_neg h3, if_neg (fun h => h3 h.2.2)]
    · rw [if_neg h2, if_neg (fun h => h2 h.2.1)]
  · rw [if_neg h1, if_neg (fun h => h1 h.1)]
theorem cubeK_csi {n : Nat} {x : CubeI} (hx : CubeK n x) {k i j : Nat} (hk : k < 5) (hi : i < n) (hj : j < n) {v : Int} (hv : 0 ≤ v) : CubeK n (csi x k i j v) := by
  refine ⟨by unfold csi; rw [List.length_set]; exact hx.l1, fun a ha => ?_, fun a ha b hb => ?_, fun a b c => ?_⟩
  · unfold csi
    rw [getD_set' _ _ _ _ _ (by rw [hx.l1]; exact hk)]
    by_cases h1 : a = k
    · subst h1; rw [if_pos rfl, List.length_set]; exact hx.l2 a ha
    · rw [if_neg h1]; exact hx.l2 a ha
  · unfold csi
    rw [getD_set' _ _ _ _ _ (by rw [hx.l1]; exact hk)]
    by_cases h1 : a = k
    · subst h1
      rw [if_pos rfl, getD_set' _ _ _ _ _ (by rw [hx.l2 a ha]; exact hi)]
      by_cases h2 : b = i
      · subst h2; rw [if_pos rfl, List.length_set]; exact hx.l3 a ha b hb
      · rw [if_neg h2]; exact hx.l3 a ha b hb
    · rw [if_neg h1]; exact hx.l3 a ha b hb
  · rw [cgi_csi hx hk hi hj]; split
    · exact hv
    · exact hx.nn a b c
theorem bigR {c : UInt8} (h : big c = true) : 65 ≤ c.toNat ∧ c.toNat ≤ 69 := by
  unfold big at h
  simpa only [Bool.and_eq_true, decide_eq_true_eq] using h
theorem e65' {c : UInt8} (h : big c = true) : IntKind.i64.wrap (IntKind.u8.wrap ((c.toNat : Int) - 65)) = ((c.toNat - 65 : Nat) : Int) := by
  have := bigR h
  rw [w8 (by omega) (by omega), w64 (by omega) (by omega)]
  omega
theorem mG' {a : Nat} (h : a ≤ 2000000) : a < maxLenE := by unfold maxLenE; omega
theorem l1In_ev (l : List UInt8) (hl : l.length ≤ 2000000) (c : UInt8) : EvP (fun k => spec_l1In k l ((c.toNat : Nat) : Int)) (fun r => r = l.contains c) := by
  have loop : ∀ (q t : Nat), t + q = l.length → EvP (fun k => spec_l1In_L26 k l ((c.toNat : Nat) : Int) (t : Int)) (fun r => r = (l.drop t).contains c) := by
    intro q
    induction q with
    | zero =>
      intro t ht
      refine EvP.fn (fun k => spec_l1In_L26_eq k _ _ _) (EvP.decN (by omega) (EvP.now ?_))
      rw [List.drop_eq_nil_of_le (by omega)]; rfl
    | succ q ih =>
      intro t ht
      refine EvP.fn (fun k => spec_l1In_L26_eq k _ _ _) (EvP.decY (by omega) (EvP.yes (by omega) (EvP.yes (by omega) ?_)))
      rw [Int.toNat_natCast, w64 (by omega) (by omega), drop_cons l t 0 (by omega)]
      refine EvP.dec (fun h => EvP.now ?_) (fun h => (ih (t + 1) (by omega)).mono fun r hr => ?_)
      · have : l.getD t 0 = c := UInt8.toNat_inj.1 (by omega)
        rw [this]; simp
      · have : ¬ c = l.getD t 0 := fun e => h (by rw [e])
        have e : (c == l.getD t 0) = false := by simpa using this
        rw [hr, List.contains_cons, e, Bool.false_or]
  exact EvP.fn (fun k => spec_l1In_eq k _ _) (loop l.length 0 (Nat.zero_add _))
theorem min_ev (a b : Nat) : EvP (fun k => spec_l8Min k (a : Int) (b : Int)) (fun r => r = ((min a b : Nat) : Int)) :=
  EvP.fn (fun k => spec_l8Min_eq k _ _) (EvP.dec (fun h => EvP.now (by omega)) (fun h => EvP.now (by omega)))
theorem contains_inP (s : List UInt8) (c : UInt8) (i j : Nat) (hj : j ≤ s.length) : (List.drop i (List.take j s)).contains c = inP s c i j := by
  rw [Bool.eq_iff_iff, List.contains_iff_mem, inP_iff]
  constructor
  · intro h
    obtain ⟨k, hk, rfl⟩ := List.mem_iff_getElem.1 h
    simp only [List.length_drop, List.length_take] at hk
    refine ⟨i + k, by omega, by omega, ?_⟩
    rw [List.getElem_drop, List.getElem_take, List.getElem?_eq_getElem (by omega)]
  · rintro ⟨k, h1, h2, h3⟩
    have hk := (List.getElem?_eq_some_iff.1 h3)
    refine List.mem_iff_getElem?.2 ⟨k - i, ?_⟩
    rw [List.getElem?_drop, List.getElem?_take]
    have : i + (k - i) = k := by omega
    rw [this, if_pos h2]; exact h3
section
variable {s : List UInt8} {x : CubeI}
theorem sof_ev (hs : s.length ≤ 1000) (hx : CubeK (s.length + 1) x) (c : UInt8) (hc : sign c = true) (i j : Nat) (hij : i ≤ j) (hj : j ≤ s.length) : EvP (fun k => spec_l8Of k x s ((c.toNat : Nat) : Int) (i : Int) (j : Int)) (fun r => r = (sgv s (Vs x) c i j : Int)) := by
  refine EvP.fn (fun k => spec_l8Of_eq k _ _ _ _ _) (EvP.bind (l1Small_ev c) fun b hb => ?_)
  subst hb
  refine EvP.ite (fun hsm => ?_) (fun hns => ?_)
  · have e : sgv s (Vs x) c i j = mcost s c i j := by unfold sgv; rw [if_pos hsm]
    rw [e]
    refine EvP.bind (P := fun r => r = (mcost s c i j : Int)) (EvP.fn (fun k => spec_l8Small_eq k _ _ _ _) (EvP.dec (fun h => EvP.now ?_) (fun h => EvP.yes (by omega) (EvP.yes (by omega) (EvP.yes (by omega) ?_))))) fun r hr => EvP.now hr
    · have : i = j := by omega
      subst this
      rw [mcost_self]; rfl
    · rw [Int.toNat_natCast, Int.toNat_natCast]
      refine EvP.bind (l1In_ev _ (by rw [List.length_drop, List.length_take]; omega) c) fun d hd => ?_
      rw [contains_inP s c i j hj] at hd
      subst hd
      rw [w64 (x := (j : Int) - (i : Int)) (by omega) (by omega), w64 (by omega) (by omega)]
      refine EvP.ite (fun h' => EvP.now ?_) (fun h' => EvP.now ?_)
      · unfold mcost; rw [if_pos h']; omega
      · unfold mcost; rw [if_neg h']; omega
  · have hns : small c = false := by simpa using hns
    have hb : big c = true := by unfold sign at hc; rw [hns] at hc; simpa using hc
    have hr := bigR hb
    have h5 : c.toNat - 65 < 5 := by omega
    have c1 := hx.l2 (c.toNat - 65) h5
    have c2 := hx.l3 (c.toNat - 65) h5 i (by omega)
    rw [e65' hb, Int.toNat_natCast, Int.toNat_natCast, Int.toNat_natCast]
    refine EvP.yes (by omega) (EvP.yes (by rw [hx.l1]; omega) (EvP.yes (by omega) (EvP.yes (by rw [c1]; omega) (EvP.yes (by omega) (EvP.yes (by rw [c2]; omega) (EvP.now ?_))))))
    have e : (sgv s (Vs x) c i j : Int) = cgi x (c.toNat - 65) i j := by
      unfold sgv Vs
      rw [if_neg (by simp [hns]), if_pos hr.1]
      have := hx.nn (c.toNat - 65) i j
      omega
    rw [e]
    unfold cgi
    have key : ∀ (l : List Int), j < l.length → l.getD j 0 = l.getD j 100000 := fun l hl => by
      rw [List.getD_eq_getElem?_getD, List.getD_eq_getElem?_getD, List.getElem?_eq_getElem hl]; rfl
    exact key _ (by rw [c2]; omega)
def RowS (P : Nat → Nat → Prop) (L : Nat) (row : List Int) : Prop := row.length = L ∧ ∀ u, u < L → ∃ v : Nat, row.getD u 0 = (v : Int) ∧ Lst FS (P u) v
theorem RowS.of {P Q : Nat → Nat → Prop} {L : Nat} {row : List Int} (h : RowS P L row) (k : ∀ u v, u < L → Lst FS (P u) v → Lst FS (Q u) v) : RowS Q L row :=
  ⟨h.1, fun u hu => by obtain ⟨v, h1, h2⟩ := h.2 u hu; exact ⟨v, h1, k u v hu h2⟩⟩
theorem RowS.snoc {P : Nat → Nat → Prop} {L : Nat} {row : List Int} (h : RowS P L row) {v : Nat} (hv : Lst FS (P L) v) : RowS P (L + 1) (row ++ [(v : Int)]) := by
  refine ⟨by rw [List.length_append, h.1]; rfl, fun u hu => ?_⟩
  rw [List.getD_eq_getElem?_getD]
  by_cases hlt : u < L
  · rw [List.getElem?_append_left (by rw [h.1]; exact hlt), ← List.getD_eq_getElem?_getD]
    exact h.2 u hlt
  · obtain rfl : u = L := by omega
    rw [List.getElem?_append_right (by rw [h.1]; exact Nat.le_refl _), h.1, Nat.sub_self]
    exact ⟨v, rfl, hv⟩
theorem midS_ev {R : List Rl} (hs : s.length ≤ 1000) (hS : SndC Vs R (mB s) (mE s.length) FS x) (hx : CubeK (s.length + 1) x) (q : List UInt8) (hq : q.length ≤ 1000) (t : Nat) (ht : t < q.length) (hc : sign (q.getD t 0) = true) (i : Nat) (row : List Int) (hrow : RowS (fun u => Sp (SgM s FS (Vs x)) (q.take t) i u) (s.length + 1) row) (to : Nat) (hto : to ≤ s.length) (next : List Int) (hnx : next.length ≤ 1000) {P : List Int → Prop}
    (nx : ∀ v : Nat, Lst FS (Mid (SgM s FS (Vs x)) (q.take t) (q.getD t 0) i (max i (to + 1)) to) v → EvP (fun k => spec_l8Row_L64074 k x s q (i : Int) ((s.length + 1 : Nat) : Int) row (t : Int) (next ++ [(v : Int)]) ((to + 1 : Nat) : Int)) P) :
    ∀ (n m : Nat), m + n = max i (to + 1) → i ≤ m → ∀ v : Nat, Lst FS (Mid (SgM s FS (Vs x)) (q.take t) (q.getD t 0) i m to) v → EvP (fun k => spec_l8Row_L16403018 k x s q (i : Int) ((s.length + 1 : Nat) : Int) row (t : Int) next (to : Int) (v : Int) (m : Int)) P
  | 0, m, h, him, v, hv => by
    refine EvP.fn (fun k => spec_l8Row_L16403018_eq k _ _ _ _ _ _ _ _ _ _ _) (EvP.decN (by omega) (EvP.yes (mG' (by show next.length + 1 ≤ _; omega)) ?_))
    rw [w64 (by omega) (by omega)]
    have e : m = max i (to + 1) := by omega
    rw [e] at hv
    exact nx v hv
  | n + 1, m, h, him, v, hv => by
    obtain ⟨f, hf1, hf2⟩ := hrow.2 m (by omega)
    have hl := hrow.1
    refine EvP.fn (fun k => spec_l8Row_L16403018_eq k _ _ _ _ _ _ _ _ _ _ _) (EvP.decY (by omega) (EvP.yes (by omega) (EvP.yes (by omega) (EvP.yes (by omega) (EvP.yes (by omega) ?_)))))
    rw [Int.toNat_natCast, Int.toNat_natCast, hf1]
    refine EvP.bind (sof_ev hs hx _ hc m to (by omega) hto) fun y hy => ?_
    subst hy
    have hsg := sgv_lst hS (by show s.length < 100000; omega) (q.getD t 0) m to (by omega) hto
    have hle : _ ≤ 100000 := hsg.le
    have hfl : f ≤ 100000 := hf2.le
    rw [w64 (x := (f : Int) + _) (by omega) (by omega), ← Int.natCast_add]
    refine EvP.bind (min_ev _ _) fun z hz => ?_
    subst hz
    rw [w64 (by omega) (by omega)]
    exact midS_ev hs hS hx q hq t ht hc i row hrow to hto next hnx nx n (m + 1) (by omega) (by omega) _ ((hv.step hf2 hsg).congr fun y => mid_next.symm)
theorem tosS_ev {R : List Rl} (hs : s.length ≤ 900) (hS : SndC Vs R (mB s) (mE s.length) FS x) (hx : CubeK (s.length + 1) x) (q : List UInt8) (hq : q.length ≤ 1000) (t : Nat) (ht : t < q.length) (hc : sign (q.getD t 0) = true) (i : Nat) (row : List Int) (hrow : RowS (fun u => Sp (SgM s FS (Vs x)) (q.take t) i u) (s.length + 1) row) {P : List Int → Prop}
    (nx : ∀ next, RowS (fun u => Sp (SgM s FS (Vs x)) (q.take (t + 1)) i u) (s.length + 1) next → EvP (fun k => spec_l8Row_L250 k x s q (i : Int) ((s.length + 1 : Nat) : Int) next ((t + 1 : Nat) : Int)) P) :
    ∀ (n to : Nat), to + n = s.length + 1 → ∀ next, RowS (fun u => Sp (SgM s FS (Vs x)) (q.take (t + 1)) i u) to next → EvP (fun k => spec_l8Row_L64074 k x s q (i : Int) ((s.length + 1 : Nat) : Int) row (t : Int) next (to : Int)) P
  | 0, to, h, next, hn => by
    refine EvP.fn (fun k => spec_l8Row_L64074_eq k _ _ _ _ _ _ _ _ _) (EvP.decN (by omega) ?_)
    rw [w64 (by omega) (by omega)]
    obtain rfl : to = s.length + 1 := by omega
    exact nx next hn
  | n + 1, to, h, next, hn => by
    have e : q.take (t + 1) = q.take t ++ [q.getD t 0] := by
      rw [List.take_add_one, List.getD_eq_getElem?_getD, List.getElem?_eq_getElem ht]; rfl
    have hl := hn.1
    refine EvP.fn (fun k => spec_l8Row_L64074_eq k _ _ _ _ _ _ _ _ _) (EvP.decY (by omega) ?_)
    refine midS_ev (by omega) hS hx q hq t ht hc i row hrow to (by omega) next (by omega) (fun v hv => tosS_ev hs hS hx q hq t ht hc i row hrow nx n (to + 1) (by omega) _ (hn.snoc ?_)) (max i (to + 1) - i) i (by omega) (Nat.le_refl _) 100000 (Lst.none fun y => mid_none hS (Nat.le_refl _))
    rw [e]
    exact hv.congr fun y => mid_all hS (by omega)
def RowOk {X : Type} (V : X → UInt8 → Nat → Nat → Nat) (s : List UInt8) (F : Nat) (x : X) (q : List UInt8) (i : Nat) (r : List Int) : Prop := r.length = s.length + 1 ∧ ∀ u, i ≤ u → u ≤ s.length → ∃ v : Nat, r.getD u 0 = (v : Int) ∧ Lst F (Rt (SgM s F (V x)) (mE s.length) q i u) v
theorem row_ev {R : List Rl} (hs : s.length ≤ 900) (hS : SndC Vs R (mB s) (mE s.length) FS x) (hx : CubeK (s.length + 1) x) (q : List UInt8) (hq : q.length ≤ 1000) (hsg : q.all sign = true) (i : Nat) (hi : i ≤ s.length) :
    EvP (fun k => spec_l8Row k x s q (i : Int)) (RowOk Vs s FS x q i) := by
  have e0 : IntKind.i64.wrap ((s.length : Int) + 1) = ((s.length + 1 : Nat) : Int) := w64 (by omega) (by omega)
  have signs : ∀ (m t : Nat), t + m = q.length → ∀ row, RowS (fun u => Sp (SgM s FS (Vs x)) (q.take t) i u) (s.length + 1) row → q ≠ [] → EvP (fun k => spec_l8Row_L250 k x s q (i : Int) ((s.length + 1 : Nat) : Int) row (t : Int)) (RowOk Vs s FS x q i) := by
    intro m
    induction m with
    | zero =>
      intro t ht row hrow hne
      obtain rfl : t = q.length := by omega
      rw [List.take_length] at hrow
      refine EvP.fn (fun k => spec_l8Row_L250_eq k _ _ _ _ _ _ _) (EvP.decN (by omega) (EvP.now ⟨hrow.1, fun u h1 h2 => ?_⟩))
      obtain ⟨v, h3, h4⟩ := hrow.2 u (by omega)
      refine ⟨v, h3, ?_⟩
      cases q with
      | nil => exact absurd rfl hne
      | cons c q => exact h4
    | succ m ih =>
      intro t ht row hrow hne
      refine EvP.fn (fun k => spec_l8Row_L250_eq k _ _ _ _ _ _ _) (EvP.decY (by omega) ?_)
      exact tosS_ev hs hS hx q hq t (by omega) (List.all_eq_true.1 hsg _ (getD_mem q t 0 (by omega))) i row hrow (fun next hn => by
        have ew : IntKind.i64.wrap ((t : Int) + 1) = ((t + 1 : Nat) : Int) := w64 (by omega) (by omega)
        exact ih (t + 1) (by omega) next hn hne) (s.length + 1) 0 (Nat.zero_add _) [] ⟨rfl, fun u hu => absurd hu (Nat.not_lt_zero _)⟩
  refine EvP.fn (fun k => spec_l8Row_eq k _ _ _ _) ?_
  rw [e0]
  by_cases hq0 : q = []
  · subst hq0
    have build : ∀ (m t : Nat), t + m = s.length + 1 → ∀ row : List Int, row.length = t → (∀ u, i ≤ u → u < t → row.getD u 0 = ((u - i : Nat) : Int)) → EvP (fun k => spec_l8Row_L122 k x s [] (i : Int) ((s.length + 1 : Nat) : Int) row (t : Int)) (RowOk Vs s FS x [] i) := by
      intro m
      induction m with
      | zero =>
        intro t ht row hl hrow
        refine EvP.fn (fun k => spec_l8Row_L122_eq k _ _ _ _ _ _ _) (EvP.decN (by omega) (EvP.fn (fun k => spec_l8Row_L250_eq k _ _ _ _ _ _ _) (EvP.decN (by show ¬ (0 : Int) < 0; omega) (EvP.now ⟨by omega, fun u h1 h2 => ⟨u - i, hrow u h1 (by omega), Lst.one (by show u - i ≤ 100000; omega) ⟨h1, h2, rfl⟩ fun y hy => hy.2.2⟩⟩))))
      | succ m ih =>
        intro t ht row hl hrow
        have ew : IntKind.i64.wrap ((t : Int) + 1) = ((t + 1 : Nat) : Int) := w64 (by omega) (by omega)
        have put : ∀ v : Int, (i ≤ t → v = ((t - i : Nat) : Int)) → EvP (fun k => spec_l8Row_L122 k x s [] (i : Int) ((s.length + 1 : Nat) : Int) (row ++ [v]) ((t + 1 : Nat) : Int)) (RowOk Vs s FS x [] i) := fun v hv => by
          refine ih (t + 1) (by omega) _ (by rw [List.length_append, hl]; rfl) fun u h1 h2 => ?_
          rw [List.getD_eq_getElem?_getD]
          by_cases hlt : u < t
          · rw [List.getElem?_append_left (by omega), ← List.getD_eq_getElem?_getD]; exact hrow u h1 hlt
          · obtain rfl : u = t := by omega
            rw [List.getElem?_append_right (by omega), hl, Nat.sub_self]
            exact hv h1
        refine EvP.fn (fun k => spec_l8Row_L122_eq k _ _ _ _ _ _ _) (EvP.decY (by omega) (EvP.decY rfl ?_))
        rw [ew]
        have hm : row.length + 1 < maxLenE := mG' (by omega)
        refine EvP.dec (fun h => EvP.yes hm (put _ fun h' => ?_)) (fun h => EvP.dec (fun h' => EvP.yes hm (put _ fun h'' => by omega)) (fun h' => EvP.yes hm (put _ fun h'' => by omega)))
        rw [w64 (by omega) (by omega)]; omega
    exact build (s.length + 1) 0 (Nat.zero_add _) [] rfl (fun u h1 h2 => by omega)
  · have build : ∀ (m t : Nat), t + m = s.length + 1 → ∀ row, RowS (fun u => Sp (SgM s FS (Vs x)) (q.take 0) i u) t row → EvP (fun k => spec_l8Row_L122 k x s q (i : Int) ((s.length + 1 : Nat) : Int) row (t : Int)) (RowOk Vs s FS x q i) := by
      intro m
      induction m with
      | zero =>
        intro t ht row hrow
        obtain rfl : t = s.length + 1 := by omega
        exact EvP.fn (fun k => spec_l8Row_L122_eq k _ _ _ _ _ _ _) (EvP.decN (by omega) (signs q.length 0 (Nat.zero_add _) row hrow hq0))
      | succ m ih =>
        intro t ht row hrow
        have ew : IntKind.i64.wrap ((t : Int) + 1) = ((t + 1 : Nat) : Int) := w64 (by omega) (by omega)
        have hl := hrow.1
        have hm : row.length + 1 < maxLenE := mG' (by omega)
        refine EvP.fn (fun k => spec_l8Row_L122_eq k _ _ _ _ _ _ _) (EvP.decY (by omega) (EvP.decN hq0 ?_))
        rw [ew]
        refine EvP.dec (fun h => EvP.yes hm (ih (t + 1) (by omega) _ (hrow.snoc (v := 0) ?_))) (fun h => EvP.yes hm (ih (t + 1) (by omega) _ (hrow.snoc (v := 100000) ?_)))
        · exact Lst.one (Nat.zero_le _) ⟨by omega, rfl⟩ fun y hy => hy.2
        · exact Lst.none fun y hy => by
            have : i = t := hy.1
            omega
    exact build (s.length + 1) 0 (Nat.zero_add _) [] ⟨rfl, fun u hu => absurd hu (Nat.not_lt_zero _)⟩
end
/-! least costs: spec's chart -/
abbrev GwS (R : List Rl) (s : List UInt8) := GwC Vs R (mB s) (mE s.length) FS s.length
theorem vs_csi {n : Nat} {x : CubeI} (hx : CubeK n x) {c : UInt8} (hb : big c = true) {i j : Nat} (hi : i < n) (hj : j < n) (v : Nat) (d : UInt8) (k m : Nat) : Vs (csi x (c.toNat - 65) i j (v : Int)) d k m = if d = c ∧ k = i ∧ m = j then v else Vs x d k m := by
  have hr := bigR hb
  unfold Vs
  rw [cgi_csi hx (by omega) hi hj]
  by_cases h : d = c ∧ k = i ∧ m = j
  · obtain ⟨rfl, rfl, rfl⟩ := h
    rw [if_pos hr.1, if_pos ⟨rfl, rfl, rfl⟩, if_pos ⟨rfl, rfl, rfl⟩, Int.toNat_natCast]
  · rw [if_neg h]
    by_cases hd : 65 ≤ d.toNat
    · rw [if_pos hd, if_neg]
      · rw [if_pos hd]
      · rintro ⟨h1, h2, h3⟩
        exact h ⟨UInt8.toNat_inj.1 (by omega), h2, h3⟩
    · rw [if_neg hd, if_neg hd]
section
variable {g : GramT} {s : List UInt8} {x0 : CubeI}
theorem toT (hg : g.2.length ≤ 1000) (hs : s.length ≤ 900) {i : Nat} {c : UInt8} (hb : big c = true) (q : List UInt8) (hm : ([c], q) ∈ g.2) {f : Nat} (hf : f ≤ s.length) (xc : CubeI) (hxc : SndC Vs g.2 (mB s) (mE s.length) FS xc) (row : List Int) (hrow : RowOk Vs s FS xc q f row) (D : Prop) {P : CubeI → Prop}
    (nx : ∀ x ch, GwS g.2 s false x0 ch x → CubeK (s.length + 1) x → (ch = false → D ∧ ∀ u, f ≤ u → u ≤ s.length → xc = x0 → ShutC Vs s FS x0 ([c], q) f u) → EvP (fun k => spec_l8Costs_L2067238 k s g ((s.length + 1 : Nat) : Int) x ch (i : Int) ((c.toNat - 65 : Nat) : Int) ((f + 1 : Nat) : Int)) P) :
    ∀ (n u : Nat), u + n = s.length + 1 → f ≤ u → ∀ x ch, GwS g.2 s false x0 ch x → CubeK (s.length + 1) x → (ch = false → D ∧ ∀ w, f ≤ w → w < u → xc = x0 → ShutC Vs s FS x0 ([c], q) f w) → EvP (fun k => spec_l8Costs_L264606502 k s g ((s.length + 1 : Nat) : Int) x ch (i : Int) ((c.toNat - 65 : Nat) : Int) (f : Int) row (u : Int)) P
  | 0, u, h, hfu, x, ch, hw, hx, hd => by
    refine EvP.fn (fun k => spec_l8Costs_L264606502_eq k _ _ _ _ _ _ _ _ _ _) (EvP.decN (by omega) ?_)
    rw [w64 (by omega) (by omega)]
    exact nx x ch hw hx fun hch => ⟨(hd hch).1, fun w h1 h2 => (hd hch).2 w h1 (by omega)⟩
  | n + 1, u, h, hfu, x, ch, hw, hx, hd => by
    have hr := bigR hb
    have h5 : c.toNat - 65 < 5 := by omega
    have c0 := hx.l1
    have c1 := hx.l2 (c.toNat - 65) h5
    have c2 := hx.l3 (c.toNat - 65) h5 f (by omega)
    have hl := hrow.1
    obtain ⟨v, hv1, hv2⟩ := hrow.2 u hfu (by omega)
    have ew : IntKind.i64.wrap ((u : Int) + 1) = ((u + 1 : Nat) : Int) := w64 (by omega) (by omega)
    have eV : ((x.getD (c.toNat - 65) []).getD f []).getD u 0 = (Vs x c f u : Int) := by
      have e : (Vs x c f u : Int) = cgi x (c.toNat - 65) f u := by
        unfold Vs
        rw [if_pos hr.1]
        have := hx.nn (c.toNat - 65) f u
        omega
      rw [e]
      unfold cgi
      have key : ∀ (l : List Int), u < l.length → l.getD u 0 = l.getD u 100000 := fun l hl => by
        rw [List.getD_eq_getElem?_getD, List.getD_eq_getElem?_getD, List.getElem?_eq_getElem hl]; rfl
      exact key _ (by rw [c2]; omega)
    have y1 : (0 : Int) ≤ ((c.toNat - 65 : Nat) : Int) := by omega
    have y2 : ((c.toNat - 65 : Nat) : Int) < (x.length : Int) := by omega
    have y3 : (f : Int) < (((x.getD (c.toNat - 65) []).length : Nat) : Int) := by rw [c1]; omega
    have y4 : (u : Int) < ((((x.getD (c.toNat - 65) []).getD f []).length : Nat) : Int) := by rw [c2]; omega
    refine EvP.fn (fun k => spec_l8Costs_L264606502_eq k _ _ _ _ _ _ _ _ _ _) (EvP.decY (by omega) (EvP.yes (by omega) (EvP.yes (by omega) ?_)))
    rw [Int.toNat_natCast, Int.toNat_natCast, Int.toNat_natCast, ew, hv1, eV]
    refine EvP.yes y1 (EvP.yes y2 (EvP.yes (by omega) (EvP.yes y3 (EvP.yes (by omega) (EvP.yes y4 (EvP.dec (fun hlt => ?_) (fun hno => ?_)))))))
    · refine EvP.yes y1 (EvP.yes y2 (EvP.yes (by omega) (EvP.yes y3 (EvP.yes (by omega) (EvP.yes (by omega) (EvP.yes (by omega) (EvP.yes y4 ?_)))))))
      have hF := hw.snd.le c f u
      have hlt : v < Vs x c f u := by omega
      have hw2 : GwS g.2 s ch x true (csi x (c.toNat - 65) f u (v : Int)) :=
        GwC.put hw.snd hb hf (by omega) (rt_sound hxc.sg (big_not hb) hm (hv2.so (by omega))) hlt (vs_csi hx hb (by omega) (by omega) v)
      exact toT hg hs hb q hm hf xc hxc row hrow D nx n (u + 1) (by omega) (by omega) _ true (hw.trans hw2) (cubeK_csi hx h5 (by omega) (by omega) (by omega)) (fun h => by cases h)
    · refine toT hg hs hb q hm hf xc hxc row hrow D nx n (u + 1) (by omega) (by omega) x ch hw hx fun hch => ⟨(hd hch).1, fun w h1 h2 hxe => ?_⟩
      rcases Nat.lt_or_ge w u with h' | h'
      · exact (hd hch).2 w h1 h' hxe
      · obtain rfl : w = u := by omega
        rw [hw.same hch] at hno
        rw [hxe] at hv2
        intro d hd' v' hv'
        have : d = c := (List.cons.inj hd').1.symm
        subst this
        have := hv2.all v' hv'
        omega
theorem fromT (hR : FineM g.2) (hg : g.2.length ≤ 1000) (hs : s.length ≤ 900) {i : Nat} (hi : i < g.2.length) {c : UInt8} (hc : (g.2.getD i ([], [])).1 = [c]) (hb : big c = true) (D : Prop) {P : CubeI → Prop}
    (nx : ∀ x ch, GwS g.2 s false x0 ch x → CubeK (s.length + 1) x → (ch = false → D ∧ ∀ a w : Nat, a ≤ w → w ≤ s.length → ShutC Vs s FS x0 (g.2.getD i ([], [])) a w) → EvP (fun k => spec_l8Costs_L16150 k s g ((s.length + 1 : Nat) : Int) x ch ((i + 1 : Nat) : Int)) P) :
    ∀ (n f : Nat), f + n = s.length + 1 → ∀ x ch, GwS g.2 s false x0 ch x → CubeK (s.length + 1) x → (ch = false → D ∧ ∀ a w : Nat, a < f → a ≤ w → w ≤ s.length → ShutC Vs s FS x0 (g.2.getD i ([], [])) a w) → EvP (fun k => spec_l8Costs_L2067238 k s g ((s.length + 1 : Nat) : Int) x ch (i : Int) ((c.toNat - 65 : Nat) : Int) (f : Int)) P
  | 0, f, h, x, ch, hw, hx, hd => by
    refine EvP.fn (fun k => spec_l8Costs_L2067238_eq k _ _ _ _ _ _ _ _) (EvP.decN (by omega) ?_)
    rw [w64 (by omega) (by omega)]
    exact nx x ch hw hx fun hch => ⟨(hd hch).1, fun a w h1 h2 => (hd hch).2 a w (by omega) h1 h2⟩
  | n + 1, f, h, x, ch, hw, hx, hd => by
    have hmem := getD_mem g.2 i ([], []) hi
    obtain ⟨_, hl4, hsg⟩ := hR _ hmem
    have er : g.2.getD i ([], []) = ([c], (g.2.getD i ([], [])).2) := Prod.ext hc rfl
    refine EvP.fn (fun k => spec_l8Costs_L2067238_eq k _ _ _ _ _ _ _ _) (EvP.decY (by omega) (EvP.yes (by omega) (EvP.yes (by omega) ?_)))
    rw [Int.toNat_natCast]
    refine EvP.bind (row_ev hs hw.snd hx _ (by omega) hsg f (by omega)) fun row hrow => ?_
    refine toT hg hs hb (g.2.getD i ([], [])).2 (by rw [← er]; exact hmem) (by omega) x hw.snd row hrow ((D ∧ ∀ a w : Nat, a < f → a ≤ w → w ≤ s.length → ShutC Vs s FS x0 (g.2.getD i ([], [])) a w) ∧ x = x0) (fun x' ch' hw' hx' hd' => fromT hR hg hs hi hc hb D nx n (f + 1) (by omega) x' ch' hw' hx' fun hch => ⟨(hd' hch).1.1.1, fun a w h1 h2 h3 => ?_⟩) (s.length + 1 - f) f (by omega) (Nat.le_refl _) x ch hw hx (fun hch => ⟨⟨hd hch, hw.same hch⟩, fun w h1 h2 => by omega⟩)
    rcases Nat.lt_or_ge a f with h' | h'
    · exact (hd' hch).1.1.2 a w h' h2 h3
    · obtain rfl : a = f := by omega
      rw [er]
      exact (hd' hch).2 w h2 h3 (hd' hch).1.2
theorem rulesT (hR : FineM g.2) (hg : g.2.length ≤ 1000) (hs : s.length ≤ 900) {P : CubeI → Prop}
    (nx : ∀ x ch, GwS g.2 s false x0 ch x → CubeK (s.length + 1) x → (ch = false → ∀ r ∈ g.2, ∀ a w : Nat, a ≤ w → w ≤ s.length → ShutC Vs s FS x0 r a w) → EvP (fun k => spec_l8Costs_L252 k s g ((s.length + 1 : Nat) : Int) x ch) P) :
    ∀ (n i : Nat), i + n = g.2.length → ∀ x ch, GwS g.2 s false x0 ch x → CubeK (s.length + 1) x → (ch = false → ∀ r ∈ g.2.take i, ∀ a w : Nat, a ≤ w → w ≤ s.length → ShutC Vs s FS x0 r a w) → EvP (fun k => spec_l8Costs_L16150 k s g ((s.length + 1 : Nat) : Int) x ch (i : Int)) P
  | 0, i, h, x, ch, hw, hx, hd => by
    rw [List.take_of_length_le (by omega)] at hd
    exact EvP.fn (fun k => spec_l8Costs_L16150_eq k _ _ _ _ _ _) (EvP.decN (by omega) (nx x ch hw hx hd))
  | n + 1, i, h, x, ch, hw, hx, hd => by
    have hi : i < g.2.length := by omega
    obtain ⟨⟨c, hc, hb⟩, _, _⟩ := hR _ (getD_mem g.2 i ([], []) hi)
    have e : g.2.take (i + 1) = g.2.take i ++ [g.2.getD i ([], [])] := by
      rw [List.take_add_one, List.getD_eq_getElem?_getD, List.getElem?_eq_getElem hi]; rfl
    have e1 : List.getD (g.2.getD i ([], [])).1 (Int.toNat 0) 0 = c := by rw [hc]; rfl
    refine EvP.fn (fun k => spec_l8Costs_L16150_eq k _ _ _ _ _ _) (EvP.decY (by omega) (EvP.yes (by omega) (EvP.yes (by omega) (EvP.yes (by omega) ?_))))
    rw [Int.toNat_natCast, e1, e65' hb]
    refine EvP.yes (by rw [hc]; show (0 : Int) < 1; omega) ?_
    refine fromT hR hg hs hi hc hb (∀ r ∈ g.2.take i, ∀ a w : Nat, a ≤ w → w ≤ s.length → ShutC Vs s FS x0 r a w) (fun x' ch' hw' hx' hd' => rulesT hR hg hs nx n (i + 1) (by omega) x' ch' hw' hx' fun hch r hr a w h1 h2 => ?_) (s.length + 1) 0 (Nat.zero_add _) x ch hw hx (fun hch => ⟨hd hch, fun a w ha => by omega⟩)
    rw [e] at hr
    rcases List.mem_append.1 hr with hr | hr
    · exact (hd' hch).1 r hr a w h1 h2
    · rw [List.mem_singleton.1 hr]
      exact (hd' hch).2 a w h1 h2
def ChartT (g : GramT) (s : List UInt8) (x : CubeI) : Prop := CubeK (s.length + 1) x ∧ ∀ c, small c = false → ∀ i j, Lst FS (Cst g.2 (mB s) (mE s.length) [c] i j) (Vs x c i j)
theorem whileT (hR : FineM g.2) (hg : g.2.length ≤ 1000) (hs : s.length ≤ 900) : ∀ (n : Nat) (x : CubeI), SndC Vs g.2 (mB s) (mE s.length) FS x → CubeK (s.length + 1) x → totC Vs s.length x < n → EvP (fun k => spec_l8Costs_L252 k s g ((s.length + 1 : Nat) : Int) x true) (ChartT g s) := by
  intro n
  induction n with
  | zero => intro x _ _ h; exact absurd h (Nat.not_lt_zero _)
  | succ n ih =>
    intro x hsn hx hn
    refine EvP.fn (fun k => spec_l8Costs_L252_eq k _ _ _ _ _) (EvP.yes rfl ?_)
    refine rulesT (x0 := x) (P := ChartT g s) hR hg hs (fun x' ch' hw hx' hd => ?_) g.2.length 0 (Nat.zero_add _) x false (GwC.refl hsn) hx (fun _ r hr => by cases hr)
    cases ch' with
    | true =>
      rcases hw.less rfl with h | h
      · cases h
      · exact ih x' hw.snd hx' (by omega)
    | false =>
      have e := hw.same rfl
      rw [e]
      exact EvP.fn (fun k => spec_l8Costs_L252_eq k _ _ _ _ _) (EvP.no (by simp) (EvP.now ⟨hx, fun c hc i j => least_closed hsn (fun r hr i j hij hj => hd rfl r hr i j hij hj) c hc i j⟩))
end
theorem getD_rep' {α : Type} (n i : Nat) (a d : α) : (List.replicate n a).getD i d = if i < n then a else d := by
  rw [List.getD_eq_getElem?_getD, List.getElem?_replicate]
  by_cases h : i < n <;> simp [h]
abbrev blankI (n : Nat) : CubeI := List.replicate 5 (List.replicate n (List.replicate n 100000))
theorem blankI_get (n k i j : Nat) : cgi (blankI n) k i j = 100000 := by
  unfold cgi
  rw [getD_rep']
  by_cases h1 : k < 5
  · rw [if_pos h1, getD_rep']
    by_cases h2 : i < n
    · rw [if_pos h2, getD_rep']; split <;> rfl
    · rw [if_neg h2]; rfl
  · rw [if_neg h1]; rfl
theorem blankI_ok (n : Nat) : CubeK n (blankI n) := by
  refine ⟨List.length_replicate, fun k hk => ?_, fun k hk i hi => ?_, fun k i j => by rw [blankI_get]; omega⟩
  · rw [getD_rep', if_pos hk]; exact List.length_replicate
  · rw [getD_rep', if_pos hk, getD_rep', if_pos hi]; exact List.length_replicate
theorem vs_blank (n : Nat) (c : UInt8) (i j : Nat) : Vs (blankI n) c i j = FS := by
  unfold Vs
  rw [blankI_get]; split <;> rfl
theorem set_rep (n i : Nat) (v d : Int) (h : i < n) : (List.replicate i v ++ List.replicate (n - i) d).set i v = List.replicate (i + 1) v ++ List.replicate (n - (i + 1)) d := by
  have e : n - i = (n - (i + 1)) + 1 := by omega
  rw [e, List.replicate_succ, List.set_append_right _ _ (by simp)]
  simp only [List.length_replicate, Nat.sub_self, List.set_cons_zero]
  rw [List.replicate_succ', List.append_assoc]; rfl
theorem l8Costs_ev (g : GramT) (s : List UInt8) (hR : FineM g.2) (hg : g.2.length ≤ 1000) (hs : s.length ≤ 900) : EvP (fun k => spec_l8Costs k g.1 g.2 s) (ChartT g s) := by
  have cells : ∀ {P : CubeI → Prop} (x : CubeI) (a : Nat) (rows : List (List Int)) (b : Nat), rows.length ≤ 900 → EvP (fun k => spec_l8Costs_L31306 k s g ((s.length + 1 : Nat) : Int) x (a : Int) (rows ++ [List.replicate (s.length + 1) 100000]) ((b + 1 : Nat) : Int)) P → b ≤ 1000 →
      ∀ (q i : Nat), i + q = s.length + 1 → EvP (fun k => spec_l8Costs_L8014410 k s g ((s.length + 1 : Nat) : Int) x (a : Int) rows (b : Int) (List.replicate i 100000 ++ List.replicate (s.length + 1 - i) 0) (i : Int)) P := by
    intro P x a rows b hrl nx hb q
    induction q with
    | zero =>
      intro i hi
      obtain rfl : i = s.length + 1 := by omega
      refine EvP.fn (fun k => spec_l8Costs_L8014410_eq k _ _ _ _ _ _ _ _ _) (EvP.decN (by omega) (EvP.yes (mG' (by show rows.length + 1 ≤ _; omega)) ?_))
      rw [w64 (by omega) (by omega), Nat.sub_self, List.replicate_zero, List.append_nil]
      exact nx
    | succ q ih =>
      intro i hi
      refine EvP.fn (fun k => spec_l8Costs_L8014410_eq k _ _ _ _ _ _ _ _ _) (EvP.decY (by omega) (EvP.yes (by omega) (EvP.yes (by rw [List.length_append, List.length_replicate, List.length_replicate]; omega) ?_)))
      rw [Int.toNat_natCast, w64 (by omega) (by omega), set_rep _ _ _ _ (by omega)]
      exact ih (i + 1) (by omega)
  have rows : ∀ {P : CubeI → Prop} (x : CubeI) (a : Nat), x.length ≤ 5 → a ≤ 5 → EvP (fun k => spec_l8Costs_L122 k s g ((s.length + 1 : Nat) : Int) (x ++ [List.replicate (s.length + 1) (List.replicate (s.length + 1) 100000)]) ((a + 1 : Nat) : Int)) P →
      ∀ (q i : Nat), i + q = s.length + 1 → EvP (fun k => spec_l8Costs_L31306 k s g ((s.length + 1 : Nat) : Int) x (a : Int) (List.replicate i (List.replicate (s.length + 1) 100000)) (i : Int)) P := by
    intro P x a hx5 ha nx q
    induction q with
    | zero =>
      intro i hi
      obtain rfl : i = s.length + 1 := by omega
      refine EvP.fn (fun k => spec_l8Costs_L31306_eq k _ _ _ _ _ _ _) (EvP.decN (by omega) (EvP.yes (mG' (by show x.length + 1 ≤ _; omega)) ?_))
      rw [w64 (by omega) (by omega)]
      exact nx
    | succ q ih =>
      intro i hi
      have hm : ((s.length + 1 : Nat) : Int) < ((maxLenE : Nat) : Int) := by unfold maxLenE; omega
      refine EvP.fn (fun k => spec_l8Costs_L31306_eq k _ _ _ _ _ _ _) (EvP.decY (by omega) (EvP.yes rfl (EvP.yes (by omega) (EvP.yes hm ?_))))
      rw [Int.toNat_natCast]
      refine cells x a _ i (by rw [List.length_replicate]; omega) ?_ (by omega) (s.length + 1) 0 (Nat.zero_add _)
      have := ih (i + 1) (by omega)
      rw [List.replicate_succ'] at this
      exact this
  have all : ∀ (q a : Nat), a + q = 5 → EvP (fun k => spec_l8Costs_L122 k s g ((s.length + 1 : Nat) : Int) (List.replicate a (List.replicate (s.length + 1) (List.replicate (s.length + 1) 100000))) (a : Int)) (ChartT g s) := by
    intro q
    induction q with
    | zero =>
      intro a ha
      obtain rfl : a = 5 := by omega
      exact EvP.fn (fun k => spec_l8Costs_L122_eq k _ _ _ _ _) (EvP.decN (by omega) (whileT hR hg hs _ (blankI (s.length + 1)) ⟨fun c i j _ h => by rw [vs_blank] at h; exact absurd h (Nat.lt_irrefl _), fun c i j => by rw [vs_blank]; exact Nat.le_refl _⟩ (blankI_ok _) (Nat.lt_succ_self _)))
    | succ q ih =>
      intro a ha
      refine EvP.fn (fun k => spec_l8Costs_L122_eq k _ _ _ _ _) (EvP.decY (by omega) (rows _ a (by rw [List.length_replicate]; omega) (by omega) ?_ (s.length + 1) 0 (Nat.zero_add _)))
      have := ih (a + 1) (by omega)
      rw [List.replicate_succ'] at this
      exact this
  refine EvP.fn (fun k => spec_l8Costs_eq k _ _ _) ?_
  rw [w64 (by omega) (by omega)]
  exact all 5 0 rfl
/-! signs that come to small ones -/
def mtO (out : List UInt8) : Nat := ([65, 66, 67, 68, 69] : List UInt8).countP fun c => !out.contains c
def Kb (out : List UInt8) : Nat := 9 * 4 ^ (5 - mtO out)
theorem mtO_le (out : List UInt8) : mtO out ≤ 5 := Nat.le_trans List.countP_le_length (by decide)
theorem mtO_lt {out r : List UInt8} {c : UInt8} (hb : big c = true) (hc : c ∉ out) (hr : ∀ d, d ∈ r ↔ (d = c ∨ d ∈ out)) : mtO r < mtO out := by
  refine countP_lt _ _ (fun d hd => ?_) _ c (big_five hb) ?_ ?_
  · simp only [Bool.not_eq_true', List.contains_eq_mem, decide_eq_false_iff_not] at hd ⊢
    exact fun h => hd ((hr d).2 (.inr h))
  · simp only [Bool.not_eq_false', List.contains_eq_mem, decide_eq_true_eq]
    exact (hr c).2 (.inl rfl)
  · simp only [Bool.not_eq_true', List.contains_eq_mem, decide_eq_false_iff_not]
    exact hc
theorem Bd.up {R : List Rl} {s : List UInt8} {K K' : Nat} (h : K ≤ K') {c : UInt8} (hc : Bd R s K c) : Bd R s K' c := fun i j hi hj => by
  obtain ⟨x, h1, h2⟩ := hc i j hi hj
  exact ⟨x, Nat.le_trans h1 h, h2⟩
theorem kb_ge (out : List UInt8) : 9 ≤ Kb out := by
  unfold Kb
  have : 0 < 4 ^ (5 - mtO out) := Nat.pow_pos (by omega)
  omega
theorem kb_le (out : List UInt8) : Kb out ≤ 9216 := by
  unfold Kb
  have : 4 ^ (5 - mtO out) ≤ 4 ^ 5 := Nat.pow_le_pow_right (by omega) (by omega)
  have e : 4 ^ 5 = 1024 := by decide
  omega
theorem kb_lt {out r : List UInt8} (h : mtO r < mtO out) : 4 * Kb out ≤ Kb r := by
  unfold Kb
  have h5 := mtO_le out
  have e : 4 * (9 * 4 ^ (5 - mtO out)) = 9 * 4 ^ (5 - mtO out + 1) := by rw [Nat.pow_succ]; omega
  rw [e]
  exact Nat.mul_le_mul_left _ (Nat.pow_le_pow_right (by omega) (by omega))
theorem l1Add_ev (l : List UInt8) (hl : l.length ≤ 2000000) (c : UInt8) : EvP (fun k => spec_l1Add k l ((c.toNat : Nat) : Int)) (fun r => (c ∈ l ∧ r = l) ∨ ∃ t, t ≤ l.length ∧ r = l.take t ++ [c] ++ l.drop t) := by
  have eo : ofBytes [((c.toNat : Nat) : Int)] = [c] := by
    show [UInt8.ofNat (((c.toNat : Nat) : Int)).toNat] = [c]
    rw [Int.toNat_natCast]; simp
  have loop : ∀ (q t : Nat), t + q = l.length → EvP (fun k => spec_l1Add_L28 k l ((c.toNat : Nat) : Int) (t : Int)) (fun r => (c ∈ l ∧ r = l) ∨ ∃ t, t ≤ l.length ∧ r = l.take t ++ [c] ++ l.drop t) := by
    intro q
    induction q with
    | zero =>
      intro t ht
      have z : (0 : Int).toNat = 0 := rfl
      refine EvP.fn (fun k => spec_l1Add_L28_eq k _ _ _) (EvP.decN (by omega) (EvP.decN (by omega) (EvP.yes (by omega) (EvP.yes (by omega) (EvP.yes (by omega) ?_)))))
      rw [eo, Int.toNat_natCast, Int.toNat_natCast, List.take_length, z, List.drop_zero]
      refine EvP.yes (by rw [List.length_take]; show _ + 1 < _; omega) (EvP.yes (by omega) (EvP.yes (by omega) (EvP.yes (by omega) (EvP.yes (by rw [List.length_append, List.length_take, List.length_drop]; show _ + 1 + _ < _; omega) (EvP.now (.inr ⟨t, by omega, rfl⟩))))))
    | succ q ih =>
      intro t ht
      have z : (0 : Int).toNat = 0 := rfl
      refine EvP.fn (fun k => spec_l1Add_L28_eq k _ _ _) (EvP.decY (by omega) (EvP.yes (by omega) (EvP.yes (by omega) ?_)))
      refine EvP.dec (fun h => ?_) (fun h => EvP.decY (by omega) (EvP.yes (by omega) (EvP.yes (by omega) (EvP.dec (fun h2 => EvP.now (.inl ⟨?_, rfl⟩)) (fun h2 => EvP.yes (by omega) (EvP.yes (by omega) (EvP.yes (by omega) ?_)))))))
      · rw [w64 (by omega) (by omega)]
        exact ih (t + 1) (by omega)
      · rw [Int.toNat_natCast] at h2
        have : l.getD t 0 = c := UInt8.toNat_inj.1 (by omega)
        rw [← this]
        exact getD_mem l t 0 (by omega)
      · rw [eo, Int.toNat_natCast, Int.toNat_natCast, List.take_length, z, List.drop_zero]
        refine EvP.yes (by rw [List.length_take]; show _ + 1 < _; omega) (EvP.yes (by omega) (EvP.yes (by omega) (EvP.yes (by omega) (EvP.yes (by rw [List.length_append, List.length_take, List.length_drop]; show _ + 1 + _ < _; omega) (EvP.now (.inr ⟨t, by omega, rfl⟩))))))
  exact EvP.fn (fun k => spec_l1Add_eq k _ _) (loop l.length 0 (Nat.zero_add _))
theorem l2All_ev (q set : List UInt8) (hq : q.length ≤ 2000000) (hset : set.length ≤ 2000000) : EvP (fun k => spec_l2All k q set true) (fun r => r = q.all fun c => set.contains c || small c) := by
  have loop : ∀ (m t : Nat), t + m = q.length → EvP (fun k => spec_l2All_L26 k q set true (t : Int)) (fun r => r = (q.drop t).all fun c => set.contains c || small c) := by
    intro m
    induction m with
    | zero =>
      intro t ht
      refine EvP.fn (fun k => spec_l2All_L26_eq k _ _ _ _) (EvP.decN (by omega) (EvP.now ?_))
      rw [List.drop_eq_nil_of_le (by omega)]; rfl
    | succ m ih =>
      intro t ht
      have y : (t : Int) < (q.length : Int) := by omega
      refine EvP.fn (fun k => spec_l2All_L26_eq k _ _ _ _) (EvP.decY y (EvP.yes (by omega) (EvP.yes y ?_)))
      rw [Int.toNat_natCast, w64 (by omega) (by omega), drop_cons q t 0 (by omega), List.all_cons]
      refine EvP.bind (l1In_ev set hset _) fun b hb => ?_
      subst hb
      refine EvP.ite (fun h => EvP.yes rfl (EvP.yes (by omega) (EvP.yes y (EvP.bind (l1Small_ev _) fun d hd => ?_)))) (fun h => (ih (t + 1) (by omega)).mono fun r hr => ?_)
      · subst hd
        have h : set.contains (q.getD t 0) = false := by simpa using h
        rw [h, Bool.false_or]
        refine EvP.ite (fun h2 => EvP.now ?_) (fun h2 => (ih (t + 1) (by omega)).mono fun r hr => ?_)
        · have h2 : small (q.getD t 0) = false := by simpa using h2
          rw [h2]; rfl
        · have h2 : small (q.getD t 0) = true := by simpa using h2
          rw [h2, hr]; rfl
      · have h : set.contains (q.getD t 0) = true := by simpa using h
        rw [h, hr]; rfl
  exact EvP.fn (fun k => spec_l2All_eq k _ _ _) (loop q.length 0 (Nat.zero_add _))
structure Grown (R : List Rl) (s : List UInt8) (out : List UInt8) : Prop where
  bd : ∀ c ∈ out, Bd R s 9216 c
  all : ∀ r ∈ R, (r.2.all fun c => out.contains c || small c) = true → ∀ c, r.1 = [c] → c ∈ out
  len : out.length ≤ 1000
theorem l2Grow_ev (g : GramT) (s : List UInt8) (hR : FineM g.2) (hg : g.2.length ≤ 1000) (hs : s.length ≤ 8) : EvP (fun k => spec_l2Grow k g.1 g.2) (Grown g.2 s) := by
  have loop : ∀ (m : Nat) (out : List UInt8), mtO out ≤ m → out.length + m ≤ 100 → (∀ c ∈ out, Bd g.2 s (Kb out) c) → ∀ (n i : Nat), i + n = g.2.length → (∀ r ∈ g.2.take i, (r.2.all fun c => out.contains c || small c) = true → ∀ c, r.1 = [c] → c ∈ out) → EvP (fun k => spec_l2Grow_L58 k true g out (i : Int)) (Grown g.2 s) := by
    intro m
    induction m with
    | zero =>
      intro out hm hlen hbd n
      induction n with
      | zero =>
        intro i hi hd
        refine EvP.fn (fun k => spec_l2Grow_L58_eq k _ _ _ _) (EvP.decN (by omega) (EvP.now ⟨fun c hc => (hbd c hc).up (kb_le out), ?_, by omega⟩))
        rw [List.take_of_length_le (by omega)] at hd
        exact hd
      | succ n ihn =>
        intro i hi hd
        have hm' := getD_mem g.2 i ([], []) (by omega)
        obtain ⟨⟨c, hc, hb⟩, hl4, hsg⟩ := hR _ hm'
        have e1 : List.getD (g.2.getD i ([], [])).1 (Int.toNat 0) 0 = c := by rw [hc]; rfl
        have hcin : c ∈ out := by
          have h0 : mtO out = 0 := by omega
          have := (List.countP_eq_zero.1 h0) c (big_five hb)
          simpa using this
        have e : g.2.take (i + 1) = g.2.take i ++ [g.2.getD i ([], [])] := by
          rw [List.take_add_one, List.getD_eq_getElem?_getD, List.getElem?_eq_getElem (show i < g.2.length by omega)]; rfl
        refine EvP.fn (fun k => spec_l2Grow_L58_eq k _ _ _ _) (EvP.decY (by omega) (EvP.yes (by omega) (EvP.yes (by omega) (EvP.yes (by omega) ?_))))
        rw [Int.toNat_natCast, e1]
        refine EvP.yes (by rw [hc]; show (0 : Int) < 1; omega) (EvP.bind (l1In_ev out (by omega) c) fun b hb' => EvP.no (by rw [hb']; simpa using hcin) ?_)
        rw [w64 (by omega) (by omega)]
        refine ihn (i + 1) (by omega) fun r hr h d hd' => ?_
        rw [e] at hr
        rcases List.mem_append.1 hr with hr | hr
        · exact hd r hr h d hd'
        · rw [List.mem_singleton.1 hr, hc] at hd'
          rw [← (List.cons.inj hd').1]; exact hcin
    | succ m ihm =>
      intro out hm hlen hbd n
      induction n with
      | zero =>
        intro i hi hd
        refine EvP.fn (fun k => spec_l2Grow_L58_eq k _ _ _ _) (EvP.decN (by omega) (EvP.now ⟨fun c hc => (hbd c hc).up (kb_le out), ?_, by omega⟩))
        rw [List.take_of_length_le (by omega)] at hd
        exact hd
      | succ n ihn =>
        intro i hi hd
        have hm' := getD_mem g.2 i ([], []) (by omega)
        obtain ⟨⟨c, hc, hb⟩, hl4, hsg⟩ := hR _ hm'
        have e1 : List.getD (g.2.getD i ([], [])).1 (Int.toNat 0) 0 = c := by rw [hc]; rfl
        have e : g.2.take (i + 1) = g.2.take i ++ [g.2.getD i ([], [])] := by
          rw [List.take_add_one, List.getD_eq_getElem?_getD, List.getElem?_eq_getElem (show i < g.2.length by omega)]; rfl
        have ep : IntKind.i64.wrap ((-1 : Int) + 1) = ((0 : Nat) : Int) := w64 (by omega) (by omega)
        have y : (0 : Int) < ((List.length (g.2.getD i ([], [])).1 : Nat) : Int) := by rw [hc]; show (0 : Int) < 1; omega
        refine EvP.fn (fun k => spec_l2Grow_L58_eq k _ _ _ _) (EvP.decY (by omega) (EvP.yes (by omega) (EvP.yes (by omega) (EvP.yes (by omega) ?_))))
        rw [Int.toNat_natCast, e1, w64 (x := (i : Int) + 1) (by omega) (by omega), ep]
        have ei : ((i : Int) + 1) = ((i + 1 : Nat) : Int) := by omega
        rw [ei]
        have stay : ((g.2.getD i ([], [])).2.all (fun c => out.contains c || small c) = true → c ∈ out) → EvP (fun k => spec_l2Grow_L58 k true g out ((i + 1 : Nat) : Int)) (Grown g.2 s) := fun hst => ihn (i + 1) (by omega) fun r hr h d hd' => by
          rw [e] at hr
          rcases List.mem_append.1 hr with hr | hr
          · exact hd r hr h d hd'
          · rw [List.mem_singleton.1 hr] at h hd'
            rw [hc] at hd'
            rw [← (List.cons.inj hd').1]; exact hst h
        refine EvP.yes y (EvP.bind (l1In_ev out (by omega) c) fun b hb' => ?_)
        subst hb'
        refine EvP.ite (fun hno => EvP.bind (l2All_ev _ out (by omega) (by omega)) fun a ha => ?_) (fun hyes => stay fun _ => by simpa using hyes)
        subst ha
        refine EvP.ite (fun hall => EvP.yes (by omega) (EvP.yes y (EvP.bind (l1Add_ev out (by omega) c) fun r hr => ?_))) (fun hnall => stay fun h => absurd h hnall)
        have hno : c ∉ out := by simpa using hno
        rcases hr with ⟨h, _⟩ | ⟨t, ht, rfl⟩
        · exact absurd h hno
        · have hmem : ∀ d, d ∈ out.take t ++ [c] ++ out.drop t ↔ (d = c ∨ d ∈ out) := fun d => by
            have : d ∈ out ↔ d ∈ out.take t ∨ d ∈ out.drop t := by
              conv => lhs; rw [← List.take_append_drop t out]
              exact List.mem_append
            rw [this]
            simp only [List.mem_append, List.mem_singleton]
            constructor
            · rintro ((h | h) | h)
              · exact .inr (.inl h)
              · exact .inl h
              · exact .inr (.inr h)
            · rintro (h | h | h)
              · exact .inl (.inr h)
              · exact .inl (.inl h)
              · exact .inr h
          have hlt := mtO_lt hb hno hmem
          have hk := kb_lt hlt
          have h9 := kb_ge out
          refine ihm _ (by omega) (by simp only [List.length_append, List.length_take, List.length_drop, List.length_singleton]; omega) (fun d hd' => ?_) g.2.length 0 (Nat.zero_add _) (fun r hr => by cases hr)
          rcases (hmem d).1 hd' with rfl | hd'
          · refine (bd_rule (K := Kb out) (by omega) (big_not hb) (q := (g.2.getD i ([], [])).2) (by rw [← hc]; exact hm') hl4 fun a ha => ?_).up hk
            have := List.all_eq_true.1 hall a ha
            rw [Bool.or_eq_true] at this
            rcases this with h | h
            · exact hbd a (by simpa using h)
            · exact bd_small (by omega) h
          · exact (hbd d hd').up (by omega)
  exact EvP.fn (fun k => spec_l2Grow_eq k _ _) (loop 5 [] (mtO_le _) (by simp) (fun c hc => by cases hc) g.2.length 0 (Nat.zero_add _) (fun r hr => by cases hr))
/-- What a text is told to be far. -/
def Fars (g : GramT) (s : List UInt8) (v : Nat) : Prop := Cst g.2 (mB s) (mE s.length) g.1 0 s.length v
theorem grown_dich {g : GramT} {s out : List UInt8} {c : UInt8} (hc : g.1 = [c]) (hb : big c = true) (h : Grown g.2 s out) : (c ∈ out → ∃ v, v ≤ 9216 ∧ Fars g s v) ∧ (c ∉ out → ∀ v, ¬ Fars g s v) := by
  constructor
  · intro hin
    obtain ⟨v, h1, h2⟩ := h.bd c hin 0 s.length (Nat.zero_le _) (Nat.le_refl _)
    exact ⟨v, h1, by unfold Fars; rw [hc]; exact h2⟩
  · intro hno v hv
    unfold Fars at hv
    rw [hc] at hv
    rcases cst_made (M := fun c => c ∈ out) (fun d q hq _ hall => h.all _ hq (List.all_eq_true.2 fun a ha => by
      rcases hall a ha with h' | h'
      · rw [h', Bool.or_true]
      · have : out.contains a = true := by simpa using h'
        rw [this]; rfl) d rfl) hv c (by simp) with h' | h'
    · rw [big_not hb] at h'; cases h'
    · exact hno h'
/-- What MendFar tells. -/
def MendOf (g : GramT) (s : List UInt8) (r : Int) : Prop :=
  (GramOkP g ∧ textOk s = true → (∃ v : Nat, v ≤ 9216 ∧ Fars g s v ∧ (∀ y, Fars g s y → v ≤ y) ∧ r = (v : Int)) ∨ ((∀ v, ¬ Fars g s v) ∧ r = -1)) ∧ (¬ (GramOkP g ∧ textOk s = true) → r = -1)
theorem MendOf.eq {g : GramT} {s : List UInt8} {r r' : Int} (h : MendOf g s r) (h' : MendOf g s r') : r = r' := by
  by_cases hok : GramOkP g ∧ textOk s = true
  · rcases h.1 hok with ⟨v, _, h1, h2, rfl⟩ | ⟨h1, rfl⟩ <;> rcases h'.1 hok with ⟨w, _, k1, k2, rfl⟩ | ⟨k1, rfl⟩
    · have := h2 w k1; have := k2 v h1; omega
    · exact absurd h1 (k1 v)
    · exact absurd k1 (h1 w)
    · rfl
  · rw [h.2 hok, h'.2 hok]
theorem ok_one {g : GramT} (h : GramOkP g) : ∃ c, g.1 = [c] ∧ big c = true := by
  have := h.1
  match h1 : g.1, this with
  | [c], this => exact ⟨c, rfl, this⟩
theorem text8 {s : List UInt8} (h : textOk s = true) : s.length ≤ 8 := by
  unfold textOk at h
  simp only [Bool.and_eq_true, decide_eq_true_eq] at h
  exact h.2
theorem implMendOf_ev (g : GramT) (s : List UInt8) : EvP (fun k => impl_MendFar k g.1 g.2 s) (MendOf g s) := by
  refine (implMend_ev g s).mono fun r hr => ⟨fun hok => ?_, hr.2⟩
  obtain ⟨v, hv, hr⟩ := hr.1 hok
  obtain ⟨c, hc, hb⟩ := ok_one hok.1
  obtain ⟨_, out, hout, _⟩ := l2Grow_ev g s (fineM_of hok.1) (by have := hok.1.2.1; omega) (text8 hok.2)
  obtain ⟨d1, d2⟩ := grown_dich hc hb hout
  by_cases hin : c ∈ out
  · obtain ⟨w, hw, hF⟩ := d1 hin
    have h1 := hv.all w hF
    have h2 : v < FI := by show v < 1073741824; omega
    rw [if_pos h2] at hr
    exact .inl ⟨v, by omega, hv.so h2, hv.all, hr⟩
  · have hno := d2 hin
    have h2 : ¬ v < FI := fun h => hno v (hv.so h)
    rw [if_neg h2] at hr
    exact .inr ⟨hno, hr⟩
theorem specMendOf_ev (g : GramT) (hsl : ∀ x ∈ g.2, x.2.length ≤ 2000000) (s : List UInt8) (hl : s.length ≤ 2000000) : EvP (fun k => spec_MendFar k g.1 g.2 s) (MendOf g s) := by
  refine EvP.fn (fun k => spec_MendFar_eq k _ _ _) (EvP.bind (P := fun r => (GramOkP g ∧ textOk s = true → (r = true → ∃ v, v ≤ 9216 ∧ Fars g s v) ∧ (r = false → ∀ v, ¬ Fars g s v)) ∧ (r = true → GramOkP g ∧ textOk s = true)) (EvP.fn (fun k => spec_l8Can_eq k _ _ _) (EvP.bind (specGramOk_ev g hsl) fun b hb => EvP.ite (fun h => EvP.bind (specTextOk_ev s (by omega)) fun t ht => EvP.ite (fun h2 => ?_) (fun h2 => EvP.now ⟨fun h' => ?_, fun h' => by cases h'⟩)) (fun h => EvP.now ⟨fun h' => absurd (hb.2 h'.1) h, fun h' => by cases h'⟩))) fun r hr => ?_)
  · have hok := hb.1 h
    rw [ht] at h2
    obtain ⟨c, hc, hb1⟩ := ok_one hok
    refine EvP.bind (l2Grow_ev g s (fineM_of hok) (by have := hok.2.1; omega) (text8 h2)) fun out hout => ?_
    have e1 : List.getD g.1 (Int.toNat 0) 0 = c := by rw [hc]; rfl
    rw [e1]
    have hol := hout.len
    refine EvP.yes (by omega) (EvP.yes (by rw [hc]; show (0 : Int) < 1; omega) (EvP.bind (l1In_ev out (by omega) c) fun a ha => EvP.now ?_))
    subst ha
    obtain ⟨d1, d2⟩ := grown_dich hc hb1 hout
    exact ⟨fun _ => ⟨fun h' => d1 (by simpa using h'), fun h' => d2 (by simpa using h')⟩, fun _ => ⟨hok, h2⟩⟩
  · rw [ht] at h2; exact absurd h'.2 h2
  · refine EvP.ite (fun h => EvP.now ⟨fun h' => .inr ⟨(hr.1 h').2 (by simpa using h), rfl⟩, fun _ => rfl⟩) (fun h => ?_)
    have hrt : r = true := by simpa using h
    have hok := hr.2 hrt
    obtain ⟨w, hw, hF⟩ := (hr.1 hok).1 hrt
    obtain ⟨c, hc, hb1⟩ := ok_one hok.1
    have h8 := text8 hok.2
    have hr' := bigR hb1
    have h5 : c.toNat - 65 < 5 := by omega
    refine EvP.bind (P := MendOf g s) (EvP.fn (fun k => spec_l8Start_eq k _ _ _) (EvP.bind (l8Costs_ev g s (fineM_of hok.1) (by have := hok.1.2.1; omega) (by omega)) fun x hx => ?_)) fun y hy => EvP.now hy
    obtain ⟨hK, hLst⟩ := hx
    have c0 := hK.l1
    have c1 := hK.l2 (c.toNat - 65) h5
    have c2 := hK.l3 (c.toNat - 65) h5 0 (by omega)
    have e1 : List.getD g.1 (Int.toNat 0) 0 = c := by rw [hc]; rfl
    have z0 : Int.toNat 0 = 0 := rfl
    rw [e1, e65' hb1, Int.toNat_natCast, Int.toNat_natCast, z0]
    refine EvP.yes (by omega) (EvP.yes (by rw [hc]; show (0 : Int) < 1; omega) (EvP.yes (by omega) (EvP.yes (by omega) (EvP.yes (by omega) (EvP.yes (by rw [c1]; omega) (EvP.yes (by omega) (EvP.yes (by rw [c2]; omega) (EvP.now ⟨fun _ => .inl ?_, fun h' => absurd hok h'⟩))))))))
    have hv := hLst c (big_not hb1) 0 s.length
    have hF' := hF
    unfold Fars at hF'
    rw [hc] at hF'
    have hle := hv.all w hF'
    have hlt : Vs x c 0 s.length < FS := by show _ < 100000; omega
    refine ⟨Vs x c 0 s.length, by omega, by unfold Fars; rw [hc]; exact hv.so hlt, fun y hy => hv.all y (by unfold Fars at hy; rw [hc] at hy; exact hy), ?_⟩
    have e : (Vs x c 0 s.length : Int) = cgi x (c.toNat - 65) 0 s.length := by
      unfold Vs
      rw [if_pos hr'.1]
      have := hK.nn (c.toNat - 65) 0 s.length
      omega
    rw [e]
    unfold cgi
    have key : ∀ (l : List Int), s.length < l.length → l.getD s.length 0 = l.getD s.length 100000 := fun l hl => by
      rw [List.getD_eq_getElem?_getD, List.getD_eq_getElem?_getD, List.getElem?_eq_getElem hl]; rfl
    exact key _ (by rw [c2]; omega)
/-! rules as they came -/
theorem mL {n : Nat} (h : n ≤ maxLen) : (n : Int) ≤ 9223372036854775807 := by unfold maxLen at h; omega
theorem szRule_ev (x : Rl) (h1 : x.1.length ≤ maxLen) (h2 : x.2.length ≤ maxLen) (l : Int) (h0 : 0 ≤ l) (hl : l ≤ 1048576) : EvP (fun k => laws_szRule k x.1 x.2 l) (fun r => r ≤ 1048576 ∧ (0 ≤ r → x.1.length ≤ 1048576 ∧ x.2.length ≤ 1048576)) := by
  have m1 := mL h1
  have m2 := mL h2
  refine EvP.fn (fun k => laws_szRule_eq k _ _ _) ?_
  rw [w64 (x := l - _) (by omega) (by omega)]
  refine EvP.dec (fun h => EvP.now ⟨by decide, fun h => absurd h (by decide)⟩) (fun h => ?_)
  rw [w64 (by omega) (by omega)]
  exact EvP.dec (fun h => EvP.now ⟨by decide, fun h => absurd h (by decide)⟩) (fun h' => EvP.now ⟨by omega, fun _ => ⟨by omega, by omega⟩⟩)
theorem szRules_ev (rs : List Rl) (hr : rs.length ≤ maxLen) (hx : ∀ x ∈ rs, x.1.length ≤ maxLen ∧ x.2.length ≤ maxLen) (l : Int) (h0 : 0 ≤ l) (hl : l ≤ 1048576) : EvP (fun k => laws_szRuleS k rs l) (fun r => r ≤ 1048576 ∧ (0 ≤ r → rs.length ≤ 1048576 ∧ ∀ x ∈ rs, x.1.length ≤ 1048576 ∧ x.2.length ≤ 1048576)) := by
  have m1 := mL hr
  refine EvP.fn (fun k => laws_szRuleS_eq k _ _) ?_
  rw [w64 (x := l - _) (by omega) (by omega)]
  refine EvP.dec (fun h => EvP.now ⟨by decide, fun h => absurd h (by decide)⟩) (fun h => ?_)
  have hlen : rs.length ≤ 1048576 := by omega
  have loop : ∀ (q i : Nat), i + q = rs.length → ∀ l : Int, 0 ≤ l → l ≤ 1048576 → EvP (fun k => laws_szRuleS_L122 k rs l (i : Int)) (fun r => r ≤ 1048576 ∧ (0 ≤ r → ∀ x ∈ rs.drop i, x.1.length ≤ 1048576 ∧ x.2.length ≤ 1048576)) := by
    intro q
    induction q with
    | zero =>
      intro i hi l h0 hl
      refine EvP.fn (fun k => laws_szRuleS_L122_eq k _ _ _) (EvP.decN (by omega) (EvP.now ⟨hl, fun _ x hx => ?_⟩))
      rw [List.drop_eq_nil_of_le (by omega)] at hx; cases hx
    | succ q ih =>
      intro i hi l h0 hl
      refine EvP.fn (fun k => laws_szRuleS_L122_eq k _ _ _) (EvP.decY (by omega) (EvP.yes (by omega) (EvP.yes (by omega) ?_)))
      rw [Int.toNat_natCast, w64 (by omega) (by omega), drop_cons rs i ([], []) (by omega)]
      obtain ⟨m2, m3⟩ := hx _ (getD_mem rs i ([], []) (by omega))
      refine EvP.bind (szRule_ev (rs.getD i ([], [])) m2 m3 l h0 hl) fun r hr' => EvP.dec (fun h => EvP.now ⟨by decide, fun h => absurd h (by decide)⟩) (fun h => (ih (i + 1) (by omega) r (by omega) hr'.1).mono fun z hz => ⟨hz.1, fun h' x hx' => ?_⟩)
      rcases List.mem_cons.1 hx' with rfl | hx'
      · exact hr'.2 (by omega)
      · exact hz.2 h' x hx'
  exact (loop rs.length 0 (Nat.zero_add _) _ (by omega) (by omega)).mono fun r hr' => ⟨hr'.1, fun h' => ⟨hlen, hr'.2 h'⟩⟩
theorem szGram_ev (g : GramT) (hs : g.1.length ≤ maxLen) (hr : g.2.length ≤ maxLen) (hx : ∀ x ∈ g.2, x.1.length ≤ maxLen ∧ x.2.length ≤ maxLen) (l : Int) (h0 : 0 ≤ l) (hl : l ≤ 1048576) : EvP (fun k => laws_szGram k g.1 g.2 l) (fun r => 0 ≤ r → g.1.length ≤ 1048576 ∧ g.2.length ≤ 1048576 ∧ ∀ x ∈ g.2, x.1.length ≤ 1048576 ∧ x.2.length ≤ 1048576) := by
  have m1 := mL hs
  refine EvP.fn (fun k => laws_szGram_eq k _ _ _) ?_
  rw [w64 (x := l - _) (by omega) (by omega)]
  refine EvP.dec (fun h => EvP.now (fun h => absurd h (by decide))) (fun h => EvP.bind (szRules_ev g.2 hr hx _ (by omega) (by omega)) fun r hr' => EvP.dec (fun h => EvP.now (fun h => absurd h (by decide))) (fun h' => EvP.now fun _ => ?_))
  have := hr'.2 (by omega)
  exact ⟨by omega, this.1, this.2⟩
theorem set_fill {α : Type} (l : List α) (i : Nat) (d : α) (h : i < l.length) : (l.take i ++ List.replicate (l.length - i) d).set i (l.getD i d) = l.take (i + 1) ++ List.replicate (l.length - (i + 1)) d := by
  have e : l.length - i = (l.length - (i + 1)) + 1 := by omega
  have et : l.take (i + 1) = l.take i ++ [l.getD i d] := by
    rw [List.take_add_one, List.getD_eq_getElem?_getD, List.getElem?_eq_getElem h]; rfl
  rw [e, List.replicate_succ, List.set_append_right _ _ (by simp; omega), List.length_take, Nat.min_eq_left (by omega), Nat.sub_self, List.set_cons_zero, et, List.append_assoc]
  rfl
theorem toGram_ev (g : GramT) (hr : g.2.length ≤ 1048576) : EvP (fun k => laws_toGram k g.1 g.2) (fun r => r = g) := by
  have loop : ∀ (q i : Nat), i + q = g.2.length → EvP (fun k => laws_toRuleS_L58 k g.2 (g.2.take i ++ List.replicate (g.2.length - i) ([], [])) (i : Int)) (fun r => r = g.2) := by
    intro q
    induction q with
    | zero =>
      intro i hi
      refine EvP.fn (fun k => laws_toRuleS_L58_eq k _ _ _) (EvP.decN (by omega) (EvP.now ?_))
      rw [List.take_of_length_le (by omega), Nat.sub_eq_zero_of_le (by omega)]
      simp
    | succ q ih =>
      intro i hi
      refine EvP.fn (fun k => laws_toRuleS_L58_eq k _ _ _) (EvP.decY (by omega) (EvP.yes (by omega) (EvP.yes (by omega) ?_)))
      rw [Int.toNat_natCast, w64 (by omega) (by omega)]
      refine EvP.bind (P := fun r => r = g.2.getD i ([], [])) (EvP.fn (fun k => laws_toRule_eq k _ _) (EvP.now rfl)) fun x hx => EvP.yes (by omega) (EvP.yes (by simp; omega) ?_)
      subst hx
      have := ih (i + 1) (by omega)
      rw [← set_fill g.2 i ([], []) (by omega)] at this
      exact this
  refine EvP.fn (fun k => laws_toGram_eq k _ _) (EvP.bind (P := fun r => r = g.2) (EvP.fn (fun k => laws_toRuleS_eq k _) (EvP.yes rfl (EvP.yes (by omega) (EvP.yes (by unfold maxLenE; omega) ?_)))) fun x hx => EvP.now (by rw [hx]))
  rw [Int.toNat_natCast]
  exact loop g.2.length 0 (Nat.zero_add _)
theorem eqGram_ev (g : GramT) (hr : g.2.length ≤ 1048576) : EvP (fun k => laws_eqGram k g.1 g.2 g.1 g.2) (fun r => r = true) := by
  have loop : ∀ (q i : Nat), i + q = g.2.length → EvP (fun k => laws_eqRuleS_L58 k g.2 g.2 (i : Int)) (fun r => r = true) := by
    intro q
    induction q with
    | zero =>
      intro i hi
      exact EvP.fn (fun k => laws_eqRuleS_L58_eq k _ _ _) (EvP.decN (by omega) (EvP.now rfl))
    | succ q ih =>
      intro i hi
      refine EvP.fn (fun k => laws_eqRuleS_L58_eq k _ _ _) (EvP.decY (by omega) (EvP.yes (by omega) (EvP.yes (by omega) (EvP.yes (by omega) (EvP.yes (by omega) ?_)))))
      rw [Int.toNat_natCast, w64 (by omega) (by omega)]
      refine EvP.bind (P := fun r => r = true) (EvP.fn (fun k => laws_eqRule_eq k _ _ _ _) (EvP.notT (fun h => absurd rfl h) (fun _ => EvP.notT (fun h => absurd rfl h) (fun _ => EvP.now rfl)))) fun x hx => EvP.no (by rw [hx]; simp) (ih (i + 1) (by omega))
  exact EvP.fn (fun k => laws_eqGram_eq k _ _ _ _) (EvP.notT (fun h => absurd rfl h) (fun _ => EvP.bind (P := fun r => r = true) (EvP.fn (fun k => laws_eqRuleS_eq k _ _) (EvP.notT (fun h => absurd rfl h) (fun _ => loop g.2.length 0 (Nat.zero_add _)))) fun x hx => EvP.no (by rw [hx]; simp) (EvP.now rfl)))
theorem law_ev (s : List UInt8) (rs : List Rl) (t : List UInt8) (q0 : s.length ≤ maxLen ∧ (rs.length ≤ maxLen ∧ ∀ x ∈ rs, x.1.length ≤ maxLen ∧ x.2.length ≤ maxLen)) (q1 : t.length ≤ maxLen) : EvP (fun k => laws_FnExactMendFar k s rs t) (fun r => r = true) := by
  refine EvP.fn (fun k => laws_FnExactMendFar_eq k _ _ _) (EvP.dec (fun _ => EvP.now rfl) (fun ht => EvP.bind (szGram_ev (s, rs) q0.1 q0.2.1 q0.2.2 1048576 (by omega) (by omega)) fun l hl => EvP.dec (fun _ => EvP.now rfl) (fun h => ?_)))
  obtain ⟨h1, h2, h3⟩ := hl (by omega)
  have tg := toGram_ev (s, rs) h2
  refine EvP.bind tg fun g hg => ?_
  subst hg
  refine EvP.bind (specMendOf_ev (s, rs) (fun x hx => by have := (h3 x hx).2; omega) t (by omega)) fun a ha => EvP.bind tg fun g hg => ?_
  subst hg
  refine EvP.bind (implMendOf_ev (s, rs) t) fun b hb => EvP.notT (fun h => absurd (hb.eq ha) h) (fun _ => EvP.bind tg fun g hg => ?_)
  subst hg
  exact EvP.bind (eqGram_ev (s, rs) h2) fun c hc => EvP.no (by rw [hc]; simp) (EvP.now rfl)
end Go.Proofs.YtopcbklojbngdaaDoor.Pure
