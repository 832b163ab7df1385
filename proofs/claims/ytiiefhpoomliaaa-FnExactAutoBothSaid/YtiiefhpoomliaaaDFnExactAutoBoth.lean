/- What the reader of draws answers: they answer, and within which bounds. -/
import Derived.Test.YtiiefhpoomliaaaEv
import Derived.Test.YtiiefhpoomliaaaEqFnExactAutoBoth
namespace Go.Proofs.Ytiiefhpoomliaaa.Pure
open Go Go.Proofs.Ytiiefhpoomliaaa.Eng Go.Proofs.Ytiiefhpoomliaaa.Eq Go.Proofs.Ytiiefhpoomliaaa.Ev
set_option autoImplicit false
set_option linter.unusedVariables false
set_option linter.unusedSimpArgs false
set_option linter.unnecessarySimpa false

def Bytes (s : List Int) : Prop := (∀ x ∈ s, 0 ≤ x ∧ x ≤ 255) ∧ s.length ≤ 2000
/-- A reader, m draws ahead. -/
def Rd (m : Nat) (b : List Int) (p : Int) : Prop := Bytes b ∧ 0 ≤ p ∧ p + m ≤ 100000000
theorem Rd.less {m n : Nat} {b : List Int} {p : Int} (h : Rd m b p) (hn : n ≤ m) : Rd n b p := ⟨h.1, h.2.1, by have := h.2.2; omega⟩

/-! signs -/
def small (c : UInt8) : Bool := decide (97 ≤ c.toNat) && decide (c.toNat ≤ 100)
theorem drop_cons {α : Type} (l : List α) (i : Nat) (d : α) (h : i < l.length) : l.drop i = l.getD i d :: l.drop (i + 1) := by
  rw [List.drop_eq_getElem_cons h, List.getD_eq_getElem?_getD, List.getElem?_eq_getElem h]; rfl
/-! texts -/
def textOk (s : List UInt8) : Bool := s.all small && decide (s.length ≤ 8)
/-! automata drawn -/
abbrev AutoT := Int × List Bool × List (List Int)
/-- Not large. -/
def Sml (a : AutoT) : Prop := a.2.1.length ≤ 10 ∧ a.2.2.length ≤ 10 ∧ ∀ r ∈ a.2.2, r.length ≤ 10
theorem mE {n : Nat} (h : n ≤ 2000000) : n < maxLenE := by unfold maxLenE; omega
/-- Rows of four. -/
def Fours (a : AutoT) : Prop := a.2.1.length ≤ 6 ∧ 1 ≤ a.2.2.length ∧ a.2.2.length ≤ 6 ∧ ∀ r ∈ a.2.2, r.length = 4
theorem Fours.sml {a : AutoT} (h : Fours a) : Sml a := ⟨by have := h.1; omega, by have := h.2.2.1; omega, fun r hr => by rw [h.2.2.2 r hr]; omega⟩
theorem set_mem {α : Type} {l : List α} {i : Nat} {x y : α} (h : y ∈ l.set i x) : y = x ∨ y ∈ l := by
  rcases List.mem_or_eq_of_mem_set h with h | h
  · exact .inr h
  · exact .inl h
/-! valid automata -/
def goalB (n : Nat) (x : Int) : Bool := decide (-1 ≤ x) && decide (x < n)
def rowOk (n : Nat) (row : List Int) : Bool := decide (row.length = 4) && row.all (goalB n)
def autoOk (a : AutoT) : Bool := decide (1 ≤ a.2.1.length) && decide (a.2.1.length ≤ 6) && decide (a.2.2.length = a.2.1.length) && decide (0 ≤ a.1) && decide (a.1 < a.2.1.length) && a.2.2.all (rowOk a.2.1.length)
theorem goal_ev (a : AutoT) (x : Int) : EvP (fun k => impl_Auto_isGoal k a.1 a.2.1 a.2.2 x) (fun r => r = goalB a.2.1.length x) := by
  refine EvP.fn (fun k => impl_Auto_isGoal_eq k _ _ _ _) (EvP.dec (fun h => EvP.now (by simp [goalB, h])) (fun h => EvP.now (by simp [goalB, h])))
theorem badGoal_ev (a : AutoT) (x : Int) : EvP (fun k => impl_AutoOk_1_1 k x a.1 a.2.1 a.2.2) (fun r => r = !goalB a.2.1.length x) := by
  refine EvP.fn (fun k => impl_AutoOk_1_1_eq k _ _ _ _) (EvP.bind (goal_ev a x) fun b hb => EvP.now ?_)
  rw [hb]; cases goalB a.2.1.length x <;> rfl
theorem badRow_loop (a : AutoT) (row : List Int) (hr : row.length ≤ 2000000) : ∀ (n i : Nat), i + n = row.length → EvP (fun k => slices_IndexFunc_Sint_int_L26 k row a.1 a.2.1 a.2.2 (row.length : Int) (i : Int)) (fun r => decide (0 ≤ r) = !(row.drop i).all (goalB a.2.1.length))
  | 0, i, h => by
    refine EvP.fn (fun k => slices_IndexFunc_Sint_int_L26_eq k _ _ _ _ _ _) (EvP.decN (by omega) (EvP.now ?_))
    rw [List.drop_eq_nil_of_le (by omega)]; rfl
  | n + 1, i, h => by
    refine EvP.fn (fun k => slices_IndexFunc_Sint_int_L26_eq k _ _ _ _ _ _) (EvP.decY (by omega) (EvP.yes (by omega) (EvP.yes (by omega) ?_)))
    rw [Int.toNat_natCast, drop_cons row i 0 (by omega)]
    refine EvP.bind (badGoal_ev a _) fun b hb => ?_
    subst hb
    cases hc : goalB a.2.1.length (row.getD i 0) with
    | false => exact EvP.yes rfl (EvP.now (by rw [List.all_cons, hc]; simp))
    | true =>
      refine EvP.no (by simp) ?_
      rw [w64 (by omega) (by omega)]
      exact (badRow_loop a row hr n (i + 1) (by omega)).mono fun r hr => by rw [hr, List.all_cons, hc, Bool.true_and]
theorem badRow_ev (a : AutoT) (row : List Int) (hr : row.length ≤ 2000000) : EvP (fun k => impl_AutoOk_1 k row a.1 a.2.1 a.2.2) (fun r => r = !rowOk a.2.1.length row) := by
  refine EvP.fn (fun k => impl_AutoOk_1_eq k _ _ _ _) (EvP.notF (fun h => ?_) (fun h => EvP.now ?_))
  · have h : row.length = 4 := by omega
    refine EvP.bind (P := fun r => r = !row.all (goalB a.2.1.length)) (EvP.fn (fun k => slices_ContainsFunc_Sint_int_eq k _ _ _ _) (EvP.bind (EvP.fn (fun k => slices_IndexFunc_Sint_int_eq k _ _ _ _) (badRow_loop a row hr row.length 0 (by omega))) fun b hb => EvP.now hb)) fun b hb => EvP.now ?_
    rw [hb]; simp [rowOk, h]
  · have h : ¬ row.length = 4 := by omega
    simp [rowOk, h]
theorem badRows_loop (a : AutoT) (ha : a.2.2.length ≤ 2000000) (hr : ∀ r ∈ a.2.2, r.length ≤ 2000000) : ∀ (n i : Nat), i + n = a.2.2.length → EvP (fun k => slices_IndexFunc_SSint_Sint_L26 k a.2.2 a.1 a.2.1 a.2.2 (a.2.2.length : Int) (i : Int)) (fun r => decide (0 ≤ r) = !(a.2.2.drop i).all (rowOk a.2.1.length))
  | 0, i, h => by
    refine EvP.fn (fun k => slices_IndexFunc_SSint_Sint_L26_eq k _ _ _ _ _ _) (EvP.decN (by omega) (EvP.now ?_))
    rw [List.drop_eq_nil_of_le (by omega)]; rfl
  | n + 1, i, h => by
    refine EvP.fn (fun k => slices_IndexFunc_SSint_Sint_L26_eq k _ _ _ _ _ _) (EvP.decY (by omega) (EvP.yes (by omega) (EvP.yes (by omega) ?_)))
    rw [Int.toNat_natCast, drop_cons a.2.2 i [] (by omega)]
    refine EvP.bind (badRow_ev a _ (hr _ (getD_mem _ _ _ (by omega)))) fun b hb => ?_
    subst hb
    cases hc : rowOk a.2.1.length (a.2.2.getD i []) with
    | false => exact EvP.yes rfl (EvP.now (by rw [List.all_cons, hc]; simp))
    | true =>
      refine EvP.no (by simp) ?_
      rw [w64 (by omega) (by omega)]
      exact (badRows_loop a ha hr n (i + 1) (by omega)).mono fun r hr => by rw [hr, List.all_cons, hc, Bool.true_and]
/-- Short enough to be told. -/
def Mid (a : AutoT) : Prop := a.2.1.length ≤ 2000000 ∧ a.2.2.length ≤ 2000000 ∧ ∀ r ∈ a.2.2, r.length ≤ 2000000
theorem Sml.mid {a : AutoT} (h : Sml a) : Mid a := ⟨by have := h.1; omega, by have := h.2.1; omega, fun r hr => by have := h.2.2 r hr; omega⟩
theorem implAutoOk_ev (a : AutoT) (ha : Mid a) : EvP (fun k => impl_AutoOk k a.1 a.2.1 a.2.2) (fun r => r = autoOk a) := by
  refine EvP.fn (fun k => impl_AutoOk_eq k _ _ _) (EvP.decF (fun h1 => EvP.decF (fun h2 => EvP.notF (fun h3 => EvP.decF (fun h4 => EvP.dec (fun h5 => EvP.now ?_) (fun h5 => ?_)) (fun h => EvP.now ?_)) (fun h => EvP.now ?_)) (fun h => EvP.now ?_)) (fun h => EvP.now ?_))
  · have : ¬ a.1 < a.2.1.length := by omega
    simp [autoOk, this]
  · refine EvP.bind (P := fun r => r = !a.2.2.all (rowOk a.2.1.length)) (EvP.fn (fun k => slices_ContainsFunc_SSint_Sint_eq k _ _ _ _) (EvP.bind (EvP.fn (fun k => slices_IndexFunc_SSint_Sint_eq k _ _ _ _) (badRows_loop a ha.2.1 ha.2.2 a.2.2.length 0 (by omega))) fun b hb => EvP.now hb)) fun b hb => EvP.now ?_
    have e1 : 1 ≤ a.2.1.length := by omega
    have e2 : a.2.1.length ≤ 6 := by omega
    have e3 : a.2.2.length = a.2.1.length := by omega
    have e4 : 0 ≤ a.1 := by omega
    have e5 : a.1 < a.2.1.length := by omega
    rw [hb]; simp only [autoOk, e1, e2, e3, e4, e5, decide_true, Bool.true_and]
    cases a.2.2.all (rowOk a.2.1.length) <;> rfl
  · have : ¬ 0 ≤ a.1 := by omega
    simp [autoOk, this]
  · have : ¬ a.2.2.length = a.2.1.length := by omega
    simp [autoOk, this]
  · have : ¬ a.2.1.length ≤ 6 := by omega
    simp [autoOk, this]
  · have : ¬ 1 ≤ a.2.1.length := by omega
    simp [autoOk, this]
theorem specAutoOk_loops (a : AutoT) (hn : a.2.1.length ≤ 6) (hl : a.2.2.length = a.2.1.length) : ∀ (n i : Nat), i + n = a.2.2.length → EvP (fun k => spec_AutoOk_L122 k a (a.2.1.length : Int) (i : Int)) (fun r => r = (a.2.2.drop i).all (rowOk a.2.1.length))
  | 0, i, h => by
    refine EvP.fn (fun k => spec_AutoOk_L122_eq k _ _ _) (EvP.decN (by omega) (EvP.now ?_))
    rw [List.drop_eq_nil_of_le (by omega)]; rfl
  | n + 1, i, h => by
    refine EvP.fn (fun k => spec_AutoOk_L122_eq k _ _ _) (EvP.decY (by omega) (EvP.yes (by omega) (EvP.yes (by omega) ?_)))
    rw [Int.toNat_natCast, drop_cons a.2.2 i [] (by omega)]
    generalize hrow : a.2.2.getD i [] = row
    refine EvP.notT (fun h4 => EvP.now ?_) (fun h4 => ?_)
    · have : ¬ row.length = 4 := by omega
      rw [List.all_cons]; simp [rowOk, this]
    · have h4 : row.length = 4 := by omega
      have inner : ∀ (q j : Nat), j + q = 4 → EvP (fun k => spec_AutoOk_L15654 k (a.fst, a.snd.fst, a.snd.snd) (a.2.1.length : Int) (i : Int) (j : Int)) (fun r => r = ((row.drop j).all (goalB a.2.1.length) && (a.2.2.drop (i + 1)).all (rowOk a.2.1.length))) := by
        intro q
        induction q with
        | zero =>
          intro j hj
          refine EvP.fn (fun k => spec_AutoOk_L15654_eq k _ _ _ _) (EvP.decN (by omega) ?_)
          rw [w64 (by omega) (by omega), List.drop_eq_nil_of_le (by omega)]
          exact (specAutoOk_loops a hn hl n (i + 1) (by omega)).mono fun r hr => by rw [hr]; rfl
        | succ q ih =>
          intro j hj
          refine EvP.fn (fun k => spec_AutoOk_L15654_eq k _ _ _ _) (EvP.decY (by omega) (EvP.yes (by omega) (EvP.yes (by show (i : Int) < (a.2.2.length : Int); omega) (EvP.yes (by omega) ?_))))
          simp only [Int.toNat_natCast, hrow]
          rw [drop_cons row j 0 (by omega)]
          refine EvP.yes (by omega) (EvP.decF (fun h1 => EvP.yes (by omega) (EvP.yes (by omega) (EvP.yes (by omega) (EvP.yes (by omega) (EvP.dec (fun h2 => EvP.now ?_) (fun h2 => ?_)))))) (fun h1 => EvP.now ?_))
          · have : ¬ row.getD j 0 < a.2.1.length := by omega
            rw [List.all_cons, goalB]; simp [-List.getD_eq_getElem?_getD, this]
          · have e1 : -1 ≤ row.getD j 0 := by omega
            have e2 : row.getD j 0 < a.2.1.length := by omega
            rw [w64 (by omega) (by omega)]
            refine (ih (j + 1) (by omega)).mono fun r hr => ?_
            rw [hr, List.all_cons]
            have : goalB a.2.1.length (row.getD j 0) = true := by simp only [goalB, e1, e2, decide_true, Bool.and_self]
            rw [this, Bool.true_and]
          · have : ¬ -1 ≤ row.getD j 0 := by omega
            rw [List.all_cons, goalB]; simp [-List.getD_eq_getElem?_getD, this]
      refine (inner 4 0 (by omega)).mono fun r hr => ?_
      rw [hr, List.all_cons, rowOk, h4]; simp
theorem specAutoOk_ev (a : AutoT) : EvP (fun k => spec_AutoOk k a.1 a.2.1 a.2.2) (fun r => r = autoOk a) := by
  refine EvP.fn (fun k => spec_AutoOk_eq k _ _ _) (EvP.decF (fun h1 => EvP.decF (fun h2 => EvP.notF (fun h3 => EvP.decF (fun h4 => EvP.dec (fun h5 => EvP.now ?_) (fun h5 => ?_)) (fun h => EvP.now ?_)) (fun h => EvP.now ?_)) (fun h => EvP.now ?_)) (fun h => EvP.now ?_))
  · have : ¬ a.1 < a.2.1.length := by omega
    simp [autoOk, this]
  · refine (specAutoOk_loops a (by omega) (by omega) a.2.2.length 0 (by omega)).mono fun r hr => ?_
    have e1 : 1 ≤ a.2.1.length := by omega
    have e2 : a.2.1.length ≤ 6 := by omega
    have e3 : a.2.2.length = a.2.1.length := by omega
    have e4 : 0 ≤ a.1 := by omega
    have e5 : a.1 < a.2.1.length := by omega
    rw [hr]; simp only [autoOk, e1, e2, e3, e4, e5, decide_true, Bool.true_and, List.drop_zero]
  · have : ¬ 0 ≤ a.1 := by omega
    simp [autoOk, this]
  · have : ¬ a.2.2.length = a.2.1.length := by omega
    simp [autoOk, this]
  · have : ¬ a.2.1.length ≤ 6 := by omega
    simp [autoOk, this]
  · have : ¬ 1 ≤ a.2.1.length := by omega
    simp [autoOk, this]
/-! products -/
abbrev PairsT := List (Int × Int)
/-- The place of two places among others, or -1. -/
def fi : PairsT → Int × Int → Int
  | [], _ => -1
  | x :: l, y => if x = y then 0 else (if fi l y < 0 then -1 else fi l y + 1)
theorem fi_range (y : Int × Int) : ∀ l : PairsT, (fi l y = -1 ∧ y ∉ l) ∨ (0 ≤ fi l y ∧ fi l y < l.length ∧ l.getD (fi l y).toNat (0, 0) = y)
  | [] => .inl ⟨rfl, by simp⟩
  | x :: l => by
    unfold fi
    split
    · rename_i h; right; exact ⟨by omega, by simp, by simpa using h⟩
    · rename_i h
      rcases fi_range y l with ⟨h1, h2⟩ | ⟨h1, h2, h3⟩
      · left; rw [h1]; exact ⟨rfl, by simp only [List.mem_cons, not_or]; exact ⟨Ne.symm h, h2⟩⟩
      · right
        have : ¬ fi l y < 0 := by omega
        rw [if_neg this]
        refine ⟨by omega, by simp; omega, ?_⟩
        have e : (fi l y + 1).toNat = (fi l y).toNat + 1 := by omega
        rw [e]; exact h3
theorem fi_step (l : PairsT) (y : Int × Int) (i : Nat) (h : i < l.length) (hd : ¬ l.getD i (0, 0) = y) : fi (l.drop i) y = (if fi (l.drop (i + 1)) y < 0 then -1 else fi (l.drop (i + 1)) y + 1) := by
  rw [drop_cons l i (0, 0) h, fi, if_neg hd]
theorem index_loop (ps : PairsT) (hs : ps.length ≤ 2000000) (y : Int × Int) : ∀ (n i : Nat), i + n = ps.length → EvP (fun k => slices_Index_S_2_int_2_int_L26 k ps y (ps.length : Int) (i : Int)) (fun r => r = (if fi (ps.drop i) y < 0 then -1 else fi (ps.drop i) y + i))
  | 0, i, h => by
    refine EvP.fn (fun k => slices_Index_S_2_int_2_int_L26_eq k _ _ _ _) (EvP.decN (by omega) (EvP.now ?_))
    rw [List.drop_eq_nil_of_le (by omega)]; rfl
  | n + 1, i, h => by
    refine EvP.fn (fun k => slices_Index_S_2_int_2_int_L26_eq k _ _ _ _) (EvP.decY (by omega) (EvP.yes (by omega) (EvP.yes (by omega) ?_)))
    rw [Int.toNat_natCast]
    refine EvP.ite (fun h' => EvP.now ?_) (fun h' => ?_)
    · simp only [Bool.and_eq_true, decide_eq_true_eq] at h'
      rw [drop_cons ps i (0, 0) (by omega), fi, if_pos (Prod.ext h'.1.symm h'.2.symm)]
      simp
    · have hne : ¬ ps.getD i (0, 0) = y := fun e => h' (by rw [e]; simp)
      rw [w64 (by omega) (by omega)]
      refine (index_loop ps hs (y.1, y.2) n (i + 1) (by omega)).mono fun r hr => ?_
      have hr' : r = (if fi (ps.drop (i + 1)) y < 0 then -1 else fi (ps.drop (i + 1)) y + ((i + 1 : Nat) : Int)) := hr
      rw [hr', fi_step ps y i (by omega) hne]
      rcases fi_range y (ps.drop (i + 1)) with ⟨h1, _⟩ | ⟨h1, _⟩
      · simp [h1]
      · have : ¬ fi (ps.drop (i + 1)) y < 0 := by omega
        have h2 : ¬ fi (ps.drop (i + 1)) y + 1 < 0 := by omega
        simp only [if_neg this, if_neg h2]; omega
theorem index_ev (ps : PairsT) (hs : ps.length ≤ 2000000) (y : Int × Int) : EvP (fun k => slices_Index_S_2_int_2_int k ps y.1 y.2) (fun r => r = fi ps y) :=
  EvP.fn (fun k => slices_Index_S_2_int_2_int_eq k _ _ _) ((index_loop ps hs (y.1, y.2) ps.length 0 (by omega)).mono fun r hr => by
    rw [hr]; rcases fi_range y ps with ⟨h1, _⟩ | ⟨h1, _⟩
    · show (if fi ps y < 0 then (-1 : Int) else fi ps y + (0 : Nat)) = _
      rw [h1]; rfl
    · show (if fi ps y < 0 then (-1 : Int) else fi ps y + (0 : Nat)) = _
      rw [if_neg (by omega)]; simp)
theorem find_loop (ps : PairsT) (hs : ps.length ≤ 2000000) (y : Int × Int) : ∀ (n i : Nat), i + n = ps.length → EvP (fun k => spec_l13Find_L26 k ps y (i : Int)) (fun r => r = (if fi (ps.drop i) y < 0 then -1 else fi (ps.drop i) y + i))
  | 0, i, h => by
    refine EvP.fn (fun k => spec_l13Find_L26_eq k _ _ _) (EvP.decN (by omega) (EvP.now ?_))
    rw [List.drop_eq_nil_of_le (by omega)]; rfl
  | n + 1, i, h => by
    refine EvP.fn (fun k => spec_l13Find_L26_eq k _ _ _) (EvP.decY (by omega) (EvP.yes (by omega) (EvP.yes (by omega) ?_)))
    rw [Int.toNat_natCast]
    refine EvP.ite (fun h' => EvP.now ?_) (fun h' => ?_)
    · simp only [Bool.and_eq_true, decide_eq_true_eq] at h'
      rw [drop_cons ps i (0, 0) (by omega), fi, if_pos (Prod.ext h'.1 h'.2)]
      simp
    · have hne : ¬ ps.getD i (0, 0) = y := fun e => h' (by rw [e]; simp)
      rw [w64 (by omega) (by omega)]
      refine (find_loop ps hs (y.1, y.2) n (i + 1) (by omega)).mono fun r hr => ?_
      have hr' : r = (if fi (ps.drop (i + 1)) y < 0 then -1 else fi (ps.drop (i + 1)) y + ((i + 1 : Nat) : Int)) := hr
      rw [hr', fi_step ps y i (by omega) hne]
      rcases fi_range y (ps.drop (i + 1)) with ⟨h1, _⟩ | ⟨h1, _⟩
      · simp [h1]
      · have : ¬ fi (ps.drop (i + 1)) y < 0 := by omega
        have h2 : ¬ fi (ps.drop (i + 1)) y + 1 < 0 := by omega
        simp only [if_neg this, if_neg h2]; omega
theorem find_ev (ps : PairsT) (hs : ps.length ≤ 2000000) (y : Int × Int) : EvP (fun k => spec_l13Find k ps y.1 y.2) (fun r => r = fi ps y) :=
  EvP.fn (fun k => spec_l13Find_eq k _ _ _) ((find_loop ps hs (y.1, y.2) ps.length 0 (by omega)).mono fun r hr => by
    rw [hr]; rcases fi_range y ps with ⟨h1, _⟩ | ⟨h1, _⟩
    · show (if fi ps y < 0 then (-1 : Int) else fi ps y + (0 : Nat)) = _
      rw [h1]; rfl
    · show (if fi ps y < 0 then (-1 : Int) else fi ps y + (0 : Nat)) = _
      rw [if_neg (by omega)]; simp)
/-- Where one goes. -/
def goR (a : AutoT) (p : Int) (k : Nat) : Int := (a.2.2.getD p.toNat []).getD k 0
def endR (a : AutoT) (p : Int) : Bool := a.2.1.getD p.toNat false
def cellB (a b : AutoT) (p : Int × Int) (k : Nat) (ps : PairsT) : PairsT × Int :=
  if 0 ≤ goR a p.1 k ∧ 0 ≤ goR b p.2 k then (if fi ps (goR a p.1 k, goR b p.2 k) < 0 then (ps ++ [(goR a p.1 k, goR b p.2 k)], (ps.length : Int)) else (ps, fi ps (goR a p.1 k, goR b p.2 k))) else (ps, -1)
def rowB (a b : AutoT) (p : Int × Int) : Nat → Nat → PairsT → List Int → PairsT × List Int
  | 0, _, ps, row => (ps, row)
  | n + 1, j, ps, row => rowB a b p n (j + 1) (cellB a b p j ps).1 (row ++ [(cellB a b p j ps).2])
def bothB (a b : AutoT) : Nat → Nat → PairsT → List Bool → List (List Int) → PairsT × List Bool × List (List Int)
  | 0, _, ps, es, gs => (ps, es, gs)
  | n + 1, i, ps, es, gs => if i < ps.length then bothB a b n (i + 1) (rowB a b (ps.getD i (0, 0)) 4 0 ps []).1 (es ++ [endR a (ps.getD i (0, 0)).1 && endR b (ps.getD i (0, 0)).2]) (gs ++ [(rowB a b (ps.getD i (0, 0)) 4 0 ps []).2]) else (ps, es, gs)
def wrapB (o : AutoT) : AutoT × Bool := if autoOk o then (o, true) else ((0, [], []), false)
def both (a b : AutoT) : AutoT × Bool := if autoOk a && autoOk b then wrapB (0, (bothB a b 37 0 [(a.1, b.1)] [] []).2) else ((0, [], []), false)
/-- Pairs of places, each once. -/
def PsOk (a b : AutoT) (ps : PairsT) : Prop := ps.Nodup ∧ ∀ p ∈ ps, 0 ≤ p.1 ∧ p.1 < a.2.1.length ∧ 0 ≤ p.2 ∧ p.2 < b.2.1.length
structure OkA (a : AutoT) : Prop where
  n : a.2.1.length ≤ 6
  l : a.2.2.length = a.2.1.length
  b0 : 0 ≤ a.1
  b1 : a.1 < a.2.1.length
  r4 : ∀ r ∈ a.2.2, r.length = 4
  rg : ∀ r ∈ a.2.2, ∀ x ∈ r, -1 ≤ x ∧ x < a.2.1.length
theorem okA {a : AutoT} (h : autoOk a = true) : OkA a := by
  simp only [autoOk, Bool.and_eq_true, decide_eq_true_eq, List.all_eq_true] at h
  obtain ⟨⟨⟨⟨⟨h1, h2⟩, h3⟩, h4⟩, h5⟩, h6⟩ := h
  refine ⟨h2, h3, h4, h5, fun r hr => ?_, fun r hr x hx => ?_⟩
  · have := h6 r hr; simp only [rowOk, Bool.and_eq_true, decide_eq_true_eq] at this; exact this.1
  · have := h6 r hr
    simp only [rowOk, Bool.and_eq_true, decide_eq_true_eq, List.all_eq_true] at this
    have := this.2 x hx
    simp only [goalB, Bool.and_eq_true, decide_eq_true_eq] at this
    exact this
theorem OkA.mid {a : AutoT} (h : OkA a) : Mid a := ⟨by have := h.n; omega, by have := h.n; have := h.l; omega, fun r hr => by rw [h.r4 r hr]; omega⟩
theorem OkA.go {a : AutoT} (h : OkA a) {p : Int} (h0 : 0 ≤ p) (h1 : p < a.2.1.length) {k : Nat} (hk : k < 4) : -1 ≤ goR a p k ∧ goR a p k < a.2.1.length ∧ (a.2.2.getD p.toNat []).length = 4 := by
  have hm : a.2.2.getD p.toNat [] ∈ a.2.2 := getD_mem _ _ _ (by have := h.l; omega)
  have h4 := h.r4 _ hm
  have := h.rg _ hm _ (getD_mem _ k 0 (by omega))
  exact ⟨this.1, this.2, h4⟩
theorem nodup_lt : ∀ (n : Nat) (l : List Nat), l.Nodup → (∀ x ∈ l, x < n) → l.length ≤ n
  | 0, l, _, h => by
    cases l with
    | nil => simp
    | cons x l => exact absurd (h x (by simp)) (Nat.not_lt_zero _)
  | n + 1, l, hn, h => by
    by_cases hm : n ∈ l
    · have h1 := nodup_lt n (l.erase n) (hn.erase n) (fun x hx => by
        have := (hn.mem_erase_iff.1 hx)
        have := h x this.2
        omega)
      rw [List.length_erase_of_mem hm] at h1
      omega
    · have := nodup_lt n l hn (fun x hx => by
        have h2 := h x hx
        have : x ≠ n := fun e => hm (e ▸ hx)
        omega)
      omega
theorem PsOk.len {a b : AutoT} (ha : OkA a) (hb : OkA b) {ps : PairsT} (h : PsOk a b ps) : ps.length ≤ 36 := by
  have hn := ha.n
  have hm := hb.n
  have h1 : (ps.map fun p => p.1.toNat * 6 + p.2.toNat).Nodup := by
    refine List.pairwise_map.2 (h.1.imp_of_mem fun {p q} hp hq hne e => hne ?_)
    have h1 := h.2 p hp
    have h2 := h.2 q hq
    exact Prod.ext (by omega) (by omega)
  have := nodup_lt 36 _ h1 (fun x hx => by
    obtain ⟨p, hp, rfl⟩ := List.mem_map.1 hx
    have h1 := h.2 p hp
    omega)
  simpa using this
theorem cell_ok {a b : AutoT} (ha : OkA a) (hb : OkA b) {ps : PairsT} (h : PsOk a b ps) {p : Int × Int} (hp : 0 ≤ p.1 ∧ p.1 < a.2.1.length ∧ 0 ≤ p.2 ∧ p.2 < b.2.1.length) {k : Nat} (hk : k < 4) :
    PsOk a b (cellB a b p k ps).1 := by
  unfold cellB
  split
  · rename_i h0
    split
    · rename_i hf
      have hnm : (goR a p.1 k, goR b p.2 k) ∉ ps := by
        rcases fi_range (goR a p.1 k, goR b p.2 k) ps with ⟨_, h2⟩ | ⟨h1, _⟩
        · exact h2
        · omega
      have g1 := ha.go hp.1 hp.2.1 hk
      have g2 := hb.go hp.2.2.1 hp.2.2.2 hk
      refine ⟨?_, fun q hq => ?_⟩
      · exact List.nodup_append.2 ⟨h.1, by simp, fun x hx y hy => by rw [List.mem_singleton.1 hy]; exact fun e => hnm (e ▸ hx)⟩
      · rcases List.mem_append.1 hq with hq | hq
        · exact h.2 q hq
        · rw [List.mem_singleton.1 hq]; exact ⟨h0.1, g1.2.1, h0.2, g2.2.1⟩
    · exact h
  · exact h
theorem row_ok {a b : AutoT} (ha : OkA a) (hb : OkA b) {p : Int × Int} (hp : 0 ≤ p.1 ∧ p.1 < a.2.1.length ∧ 0 ≤ p.2 ∧ p.2 < b.2.1.length) : ∀ (n j : Nat) {ps : PairsT} {row : List Int}, j + n ≤ 4 → PsOk a b ps → PsOk a b (rowB a b p n j ps row).1
  | 0, j, ps, row, _, h => h
  | n + 1, j, ps, row, hj, h => row_ok ha hb hp n (j + 1) (by omega) (cell_ok ha hb h hp (by omega))
theorem implRow_ev {a b : AutoT} (ha : OkA a) (hb : OkA b) {Q : AutoT × Bool → Prop} {p : Int × Int} (hp : 0 ≤ p.1 ∧ p.1 < a.2.1.length ∧ 0 ≤ p.2 ∧ p.2 < b.2.1.length) (x y : AutoT) (i : Nat) (hi : i ≤ 40) (hy : y.2.2.length ≤ 40) : ∀ (n j : Nat) {ps : PairsT} {row : List Int}, j + n = 4 → row.length = j → PsOk a b ps →
    EvP (fun k => impl_AutoBoth_L250 k a b x (y.1, y.2.1, y.2.2 ++ [(rowB a b p n j ps row).2]) (rowB a b p n j ps row).1 ((i + 1 : Nat) : Int)) Q → EvP (fun k => impl_AutoBoth_L256314 k a b x y ps (i : Int) p row (j : Int)) Q
  | 0, j, ps, row, hj, hr, h, H => by
    refine EvP.fn (fun k => impl_AutoBoth_L256314_eq k _ _ _ _ _ _ _ _ _) (EvP.decN (by omega) (EvP.yes (mE (by simp; omega)) ?_))
    rw [w64 (by omega) (by omega)]
    exact H
  | n + 1, j, ps, row, hj, hr, h, H => by
    have g1 := ha.go hp.1 hp.2.1 (k := j) (by omega)
    have g2 := hb.go hp.2.2.1 hp.2.2.2 (k := j) (by omega)
    have hps := h.len ha hb
    refine EvP.fn (fun k => impl_AutoBoth_L256314_eq k _ _ _ _ _ _ _ _ _) (EvP.decY (by omega) ?_)
    simp only [Int.toNat_natCast]
    have l1 := ha.l
    have l2 := hb.l
    refine EvP.yes hp.1 (EvP.yes (by omega) (EvP.yes (by omega) (EvP.yes (by rw [g1.2.2]; omega) (EvP.yes hp.2.2.1 (EvP.yes (by omega) (EvP.yes (by omega) (EvP.yes (by rw [g2.2.2]; omega) ?_)))))))
    show EvP (fun k => ifE (decide (0 ≤ goR a p.1 j) = true) (ifE (decide (0 ≤ goR b p.2 j) = true) ((slices_Index_S_2_int_2_int k ps (goR a p.1 j) (goR b p.2 j)).bind _) _) _) Q
    have next : ∀ {ps' : PairsT} {v : Int}, cellB a b p j ps = (ps', v) → EvP (fun k => impl_AutoBoth_L256314 k a b x y ps' (i : Int) p (row ++ [v]) ((j + 1 : Nat) : Int)) Q := fun {ps' v} e => by
      have hc := cell_ok ha hb h hp (k := j) (by omega)
      rw [e] at hc
      refine implRow_ev ha hb hp x y i hi hy n (j + 1) (by omega) (by simp; omega) hc ?_
      unfold rowB at H
      rw [e] at H
      exact H
    have ew : IntKind.i64.wrap ((j : Int) + 1) = ((j + 1 : Nat) : Int) := by rw [w64 (by omega) (by omega)]; omega
    rw [ew]
    refine EvP.dec (fun c1 => EvP.dec (fun c2 => EvP.bind (index_ev ps (by omega) (goR a p.1 j, goR b p.2 j)) fun r hr => ?_) (fun c2 => ?_)) (fun c1 => ?_)
    · subst hr
      refine EvP.dec (fun c3 => EvP.yes (mE (by simp; omega)) (EvP.yes (mE (by simp; omega)) ?_)) (fun c3 => EvP.yes (mE (by simp; omega)) ?_)
      · exact next (by unfold cellB; rw [if_pos ⟨c1, c2⟩, if_pos c3]; rfl)
      · exact next (by unfold cellB; rw [if_pos ⟨c1, c2⟩, if_neg c3])
    · exact EvP.yes (mE (by simp; omega)) (next (by unfold cellB; rw [if_neg (fun h => c2 h.2)]))
    · exact EvP.yes (mE (by simp; omega)) (next (by unfold cellB; rw [if_neg (fun h => c1 h.1)]))
theorem implBoth_loop {a b : AutoT} (ha : OkA a) (hb : OkA b) (x : AutoT) : ∀ (n i : Nat) {ps : PairsT} {es : List Bool} {gs : List (List Int)}, 37 ≤ n + i → i ≤ ps.length → PsOk a b ps → es.length = i → gs.length = i → (∀ r ∈ gs, r.length ≤ 2000000) →
    EvP (fun k => impl_AutoBoth_L250 k a b x (0, es, gs) ps (i : Int)) (fun r => r = wrapB (0, (bothB a b n i ps es gs).2))
  | 0, i, ps, es, gs, hn, hi, h, _, _, _ => by have := h.len ha hb; omega
  | n + 1, i, ps, es, gs, hn, hi, h, he, hg, hgr => by
    have hps := h.len ha hb
    refine EvP.fn (fun k => impl_AutoBoth_L250_eq k _ _ _ _ _ _) (EvP.dec (fun c => ?_) (fun c => ?_))
    · have hlt : i < ps.length := by omega
      have hm := h.2 _ (getD_mem ps i (0, 0) hlt)
      have l1 := ha.l
      have l2 := hb.l
      simp only [Int.toNat_natCast]
      have go : ∀ e, e = (endR a (ps.getD i (0, 0)).1 && endR b (ps.getD i (0, 0)).2) → EvP (fun k => impl_AutoBoth_L256314 k a b x (0, es ++ [e], gs) ps (i : Int) (ps.getD i (0, 0)) [] (0 : Int)) (fun r => r = wrapB (0, (bothB a b (n + 1) i ps es gs).2)) := fun e he' => by
        refine implRow_ev ha hb hm x (0, es ++ [e], gs) i (by omega) (by show gs.length ≤ 40; omega) 4 0 (by omega) rfl h ?_
        have hrow : ∀ (n j : Nat) (ps : PairsT) (row : List Int), (rowB a b (ps.getD i (0, 0)) n j ps row).2.length = row.length + n := by
          intro n
          have key : ∀ (p : Int × Int) (n j : Nat) (ps : PairsT) (row : List Int), (rowB a b p n j ps row).2.length = row.length + n := by
            intro p n
            induction n with
            | zero => intro j ps row; rfl
            | succ n ih => intro j ps row; rw [rowB, ih]; simp; omega
          exact fun j ps row => key _ n j ps row
        have mono : ∀ (p : Int × Int) (n j : Nat) (ps : PairsT) (row : List Int), ps.length ≤ (rowB a b p n j ps row).1.length := by
          intro p n
          induction n with
          | zero => intro j ps row; exact Nat.le_refl _
          | succ n ih =>
            intro j ps row
            refine Nat.le_trans ?_ (ih (j + 1) _ _)
            unfold cellB
            split
            · split
              · simp
              · exact Nat.le_refl _
            · exact Nat.le_refl _
        have := implBoth_loop ha hb x n (i + 1) (es := es ++ [e]) (gs := gs ++ [(rowB a b (ps.getD i (0, 0)) 4 0 ps []).2]) (by omega) (Nat.le_trans (by omega) (mono _ 4 0 ps [])) (row_ok ha hb hm 4 0 (by omega) h (row := [])) (by simp; omega) (by simp; omega) (fun r hr => by
          rcases List.mem_append.1 hr with hr | hr
          · exact hgr r hr
          · rw [List.mem_singleton.1 hr, hrow]; simp)
        refine this.mono fun r hr => ?_
        rw [hr, bothB, if_pos hlt, he']
      refine EvP.yes (by omega) (EvP.yes c (EvP.yes hm.1 (EvP.yes hm.2.1 (EvP.ite (fun h1 => EvP.yes hm.2.2.1 (EvP.yes hm.2.2.2 (EvP.yes (mE (by simp; omega)) (go _ ?_)))) (fun h1 => EvP.yes (mE (by simp; omega)) (go _ ?_))))))
      · simp only [endR, h1, Bool.true_and]
      · have h1 : a.2.1.getD (ps.getD i (0, 0)).1.toNat false = false := by simpa using h1
        simp only [endR, h1, Bool.false_and]
    · have hge : ¬ i < ps.length := by omega
      refine EvP.bind (implAutoOk_ev (0, es, gs) ⟨by show es.length ≤ 2000000; omega, by show gs.length ≤ 2000000; omega, hgr⟩) fun r hr => ?_
      subst hr
      rw [bothB, if_neg hge]
      unfold wrapB
      cases hc : autoOk (0, es, gs) with
      | false => exact EvP.yes rfl (EvP.now (by simp))
      | true => exact EvP.no (by simp) (EvP.now (by simp))
theorem start_ok {a b : AutoT} (ha : OkA a) (hb : OkA b) : PsOk a b [(a.1, b.1)] :=
  ⟨by simp, fun p hp => by rw [List.mem_singleton.1 hp]; exact ⟨ha.b0, ha.b1, hb.b0, hb.b1⟩⟩
theorem implBoth_ev (a b : AutoT) (ha : Mid a) (hb : Mid b) : EvP (fun k => impl_AutoBoth k a.1 a.2.1 a.2.2 b.1 b.2.1 b.2.2) (fun r => r = both a b) := by
  refine EvP.fn (fun k => impl_AutoBoth_eq k _ _ _ _ _ _) (EvP.bind (implAutoOk_ev a ha) fun r hr => ?_)
  subst hr
  cases hc : autoOk a with
  | false => exact EvP.no (by simp) (EvP.now (by unfold both; rw [hc]; rfl))
  | true =>
    refine EvP.yes rfl (EvP.bind (implAutoOk_ev b hb) fun r hr => ?_)
    subst hr
    cases hd : autoOk b with
    | false => exact EvP.yes rfl (EvP.now (by unfold both; rw [hc, hd]; rfl))
    | true =>
      refine EvP.no (by simp) ?_
      refine (implBoth_loop (okA hc) (okA hd) (0, [], []) 37 0 (by omega) (by simp) (start_ok (okA hc) (okA hd)) rfl rfl (fun r hr => by simp at hr)).mono fun r hr => ?_
      rw [hr]; unfold both; rw [hc, hd]; rfl
theorem specRow_ev {a b : AutoT} (ha : OkA a) (hb : OkA b) {Q : AutoT × Bool → Prop} (x y : AutoT) (i : Nat) (hi : i ≤ 40) : ∀ (n j : Nat) {ps : PairsT} {row : List Int}, j + n = 4 → row.length = j → i < ps.length → PsOk a b ps →
    EvP (fun k => spec_AutoBoth_L64074 k a b x (rowB a b (ps.getD i (0, 0)) n j ps row).1 y (i : Int) (rowB a b (ps.getD i (0, 0)) n j ps row).2 (4 : Int)) Q → EvP (fun k => spec_AutoBoth_L64074 k a b x ps y (i : Int) row (j : Int)) Q
  | 0, j, ps, row, hj, hr, hlt, h, H => by
    obtain rfl : j = 4 := by omega
    exact H
  | n + 1, j, ps, row, hj, hr, hlt, h, H => by
    have hp := h.2 _ (getD_mem ps i (0, 0) hlt)
    have hps := h.len ha hb
    have l1 := ha.l
    have l2 := hb.l
    generalize hpd : ps.getD i (0, 0) = p at hp H
    have g1 := ha.go hp.1 hp.2.1 (k := j) (by omega)
    have g2 := hb.go hp.2.2.1 hp.2.2.2 (k := j) (by omega)
    refine EvP.fn (fun k => spec_AutoBoth_L64074_eq k _ _ _ _ _ _ _ _) (EvP.decY (by omega) ?_)
    simp only [Int.toNat_natCast, hpd]
    refine EvP.yes (by omega) (EvP.yes (by omega) (EvP.yes hp.1 (EvP.yes (by omega) (EvP.yes (by omega) (EvP.yes (by rw [g1.2.2]; omega) (EvP.yes (by omega) (EvP.yes (by omega) (EvP.yes hp.2.2.1 (EvP.yes (by omega) (EvP.yes (by omega) (EvP.yes (by rw [g2.2.2]; omega) ?_)))))))))))
    show EvP (fun k => ifE (decide (goR a p.1 j < 0) = false) (ifE (decide (goR b p.2 j < 0) = true) _ ((spec_l13Find k ps (goR a p.1 j) (goR b p.2 j)).bind _)) _) Q
    have next : ∀ {ps' : PairsT} {v : Int}, cellB a b p j ps = (ps', v) → ps'.getD i (0, 0) = p → i < ps'.length → EvP (fun k => spec_AutoBoth_L64074 k a b x ps' y (i : Int) (row ++ [v]) ((j + 1 : Nat) : Int)) Q := fun {ps' v} e e2 e3 => by
      have hc := cell_ok ha hb h hp (k := j) (by omega)
      rw [e] at hc
      refine specRow_ev ha hb x y i hi n (j + 1) (by omega) (by simp; omega) e3 hc ?_
      unfold rowB at H
      rw [e] at H
      rw [e2]; exact H
    have ew : IntKind.i64.wrap ((j : Int) + 1) = ((j + 1 : Nat) : Int) := by rw [w64 (by omega) (by omega)]; omega
    have fin : ∀ {ps' : PairsT} {v : Int}, ps'.length ≤ 40 → fi ps' (goR a p.1 j, goR b p.2 j) = v → cellB a b p j ps = (ps', v) → ps'.getD i (0, 0) = p → i < ps'.length →
        EvP (fun k => spec_AutoBoth_L8201511 k a b x ps' y (i : Int) row (j : Int) (goR a p.1 j, goR b p.2 j)) Q := fun {ps' v} hl hv e e2 e3 => by
      refine EvP.fn (fun k => spec_AutoBoth_L8201511_eq k _ _ _ _ _ _ _ _ _) (EvP.bind (find_ev ps' (by omega) (goR a p.1 j, goR b p.2 j)) fun r hr => ?_)
      subst hr
      refine EvP.yes (mE (by simp; omega)) ?_
      rw [ew, hv]
      exact next e e2 e3
    rw [ew]
    refine EvP.decF (fun c1 => EvP.dec (fun c2 => ?_) (fun c2 => EvP.bind (find_ev ps (by omega) (goR a p.1 j, goR b p.2 j)) fun r hr => ?_)) (fun c1 => ?_)
    · exact EvP.yes (mE (by simp; omega)) (next (by unfold cellB; rw [if_neg (fun h => by omega)]) hpd hlt)
    · subst hr
      refine EvP.dec (fun c3 => EvP.yes (mE (by simp; omega)) ?_) (fun c3 => ?_)
      · refine fin (v := (ps.length : Int)) (by simp; omega) ?_ (by unfold cellB; rw [if_pos ⟨by omega, by omega⟩, if_pos c3]; rfl) ?_ (by simp; omega)
        · have hnm : (goR a p.1 j, goR b p.2 j) ∉ ps := by
            rcases fi_range (goR a p.1 j, goR b p.2 j) ps with ⟨_, h2⟩ | ⟨h1, _⟩
            · exact h2
            · omega
          have key : ∀ (l : PairsT) (z : Int × Int), z ∉ l → fi (l ++ [z]) z = l.length := by
            intro l z
            induction l with
            | nil => intro _; simp [fi]
            | cons q l ih =>
              intro hz
              simp only [List.mem_cons, not_or] at hz
              rw [List.cons_append, fi, if_neg (Ne.symm hz.1), ih hz.2, if_neg (by omega)]
              simp
          exact key ps _ hnm
        · rw [List.getD_eq_getElem?_getD, List.getElem?_append_left hlt, ← List.getD_eq_getElem?_getD]; exact hpd
      · exact fin (by omega) rfl (by unfold cellB; rw [if_pos ⟨by omega, by omega⟩, if_neg c3]) hpd hlt
    · exact EvP.yes (mE (by simp; omega)) (next (by unfold cellB; rw [if_neg (fun h => by omega)]) hpd hlt)
theorem cell_pre (a b : AutoT) (p : Int × Int) (k : Nat) (ps : PairsT) : ∃ t, (cellB a b p k ps).1 = ps ++ t := by
  unfold cellB
  split
  · split
    · exact ⟨_, rfl⟩
    · exact ⟨[], by simp⟩
  · exact ⟨[], by simp⟩
theorem row_pre (a b : AutoT) (p : Int × Int) : ∀ (n j : Nat) (ps : PairsT) (row : List Int), ∃ t, (rowB a b p n j ps row).1 = ps ++ t
  | 0, j, ps, row => ⟨[], by simp [rowB]⟩
  | n + 1, j, ps, row => by
    obtain ⟨t, ht⟩ := cell_pre a b p j ps
    obtain ⟨t', ht'⟩ := row_pre a b p n (j + 1) (cellB a b p j ps).1 (row ++ [(cellB a b p j ps).2])
    exact ⟨t ++ t', by rw [rowB, ht', ht, List.append_assoc]⟩
theorem row_len (a b : AutoT) (p : Int × Int) : ∀ (n j : Nat) (ps : PairsT) (row : List Int), (rowB a b p n j ps row).2.length = row.length + n
  | 0, j, ps, row => rfl
  | n + 1, j, ps, row => by rw [rowB, row_len]; simp; omega
theorem getD_pre {α : Type} (l t : List α) (i : Nat) (d : α) (h : i < l.length) : (l ++ t).getD i d = l.getD i d := by
  rw [List.getD_eq_getElem?_getD, List.getElem?_append_left h, ← List.getD_eq_getElem?_getD]
theorem specBoth_loop {a b : AutoT} (ha : OkA a) (hb : OkA b) (x : AutoT) : ∀ (n i : Nat) {ps : PairsT} {es : List Bool} {gs : List (List Int)}, 37 ≤ n + i → i ≤ ps.length → PsOk a b ps → es.length = i → gs.length = i →
    EvP (fun k => spec_AutoBoth_L250 k a b x ps (0, es, gs) (i : Int)) (fun r => r = wrapB (0, (bothB a b n i ps es gs).2))
  | 0, i, ps, es, gs, hn, hi, h, _, _ => by have := h.len ha hb; omega
  | n + 1, i, ps, es, gs, hn, hi, h, he, hg => by
    have hps := h.len ha hb
    refine EvP.fn (fun k => spec_AutoBoth_L250_eq k _ _ _ _ _ _) (EvP.dec (fun c => ?_) (fun c => ?_))
    · have hlt : i < ps.length := by omega
      have l1 := ha.l
      have l2 := hb.l
      refine specRow_ev ha hb x (0, es, gs) i (by omega) 4 0 (by omega) rfl hlt h ?_
      have hm := h.2 _ (getD_mem ps i (0, 0) hlt)
      have hro := row_ok ha hb hm 4 0 (by omega) h (row := [])
      obtain ⟨t, ht⟩ := row_pre a b (ps.getD i (0, 0)) 4 0 ps []
      have hg2 : (rowB a b (ps.getD i (0, 0)) 4 0 ps []).1.getD i (0, 0) = ps.getD i (0, 0) := by rw [ht]; exact getD_pre _ _ _ _ hlt
      have hl2 : ps.length ≤ (rowB a b (ps.getD i (0, 0)) 4 0 ps []).1.length := by rw [ht]; simp
      have hro36 := hro.len ha hb
      refine EvP.fn (fun k => spec_AutoBoth_L64074_eq k _ _ _ _ _ _ _ _) (EvP.decN (by omega) ?_)
      simp only [Int.toNat_natCast, hg2]
      have ew : IntKind.i64.wrap ((i : Int) + 1) = ((i + 1 : Nat) : Int) := by rw [w64 (by omega) (by omega)]; omega
      rw [ew]
      have go : ∀ e, e = (endR a (ps.getD i (0, 0)).1 && endR b (ps.getD i (0, 0)).2) → EvP (fun k => spec_AutoBoth_L250 k a b x (rowB a b (ps.getD i (0, 0)) 4 0 ps []).1 (0, es ++ [e], gs ++ [(rowB a b (ps.getD i (0, 0)) 4 0 ps []).2]) ((i + 1 : Nat) : Int)) (fun r => r = wrapB (0, (bothB a b (n + 1) i ps es gs).2)) := fun e he' => by
        refine (specBoth_loop ha hb x n (i + 1) (by omega) (by omega) hro (by simp; omega) (by simp; omega)).mono fun r hr => ?_
        rw [hr, bothB, if_pos hlt, he']
      refine EvP.yes (by omega) (EvP.yes (by omega) (EvP.yes hm.1 (EvP.yes hm.2.1 (EvP.ite (fun h1 => EvP.yes (by omega) (EvP.yes (by omega) (EvP.yes hm.2.2.1 (EvP.yes hm.2.2.2 (EvP.yes (mE (by simp; omega)) (EvP.yes (mE (by simp; omega)) (go _ ?_))))))) (fun h1 => EvP.yes (mE (by simp; omega)) (EvP.yes (mE (by simp; omega)) (go _ ?_)))))))
      · simp only [endR, h1, Bool.true_and]
      · have h1 : a.2.1.getD (ps.getD i (0, 0)).1.toNat false = false := by simpa using h1
        simp only [endR, h1, Bool.false_and]
    · have hge : ¬ i < ps.length := by omega
      refine EvP.bind (specAutoOk_ev (0, es, gs)) fun r hr => ?_
      subst hr
      rw [bothB, if_neg hge]
      unfold wrapB
      cases hc : autoOk (0, es, gs) with
      | false => exact EvP.yes rfl (EvP.now (by simp))
      | true => exact EvP.no (by simp) (EvP.now (by simp))
theorem specBoth_ev (a b : AutoT) : EvP (fun k => spec_AutoBoth k a.1 a.2.1 a.2.2 b.1 b.2.1 b.2.2) (fun r => r = both a b) := by
  refine EvP.fn (fun k => spec_AutoBoth_eq k _ _ _ _ _ _) (EvP.bind (specAutoOk_ev a) fun r hr => ?_)
  subst hr
  cases hc : autoOk a with
  | false => exact EvP.no (by simp) (EvP.now (by unfold both; rw [hc]; rfl))
  | true =>
    refine EvP.yes rfl (EvP.bind (specAutoOk_ev b) fun r hr => ?_)
    subst hr
    cases hd : autoOk b with
    | false => exact EvP.yes rfl (EvP.now (by unfold both; rw [hc, hd]; rfl))
    | true =>
      refine EvP.no (by simp) ?_
      refine (specBoth_loop (okA hc) (okA hd) (0, [], []) 37 0 (by omega) (by simp) (start_ok (okA hc) (okA hd)) rfl rfl).mono fun r hr => ?_
      rw [hr]; unfold both; rw [hc, hd]; rfl
/-! what the exact laws do with automata: they are told, copied, compared, marked -/
theorem lenG_mem : ∀ {gs : List (List Int)} {r : List Int}, r ∈ gs → r.length ≤ lenG gs
  | x :: l, r, h => by
    simp only [lenG]
    rcases List.mem_cons.1 h with rfl | h
    · omega
    · have := lenG_mem h; omega
theorem lenG_le {c : Nat} : ∀ {gs : List (List Int)}, (∀ r ∈ gs, r.length ≤ c) → lenG gs ≤ gs.length * c
  | [], _ => by simp [lenG]
  | x :: l, h => by
    have h1 := h x (by simp)
    have h2 := lenG_le (gs := l) (fun r hr => h r (by simp [hr]))
    simp only [lenG, List.length_cons]
    rw [Nat.add_mul]; omega
/-- Held within the bound of the exact laws. -/
def Held (a : AutoT) : Prop := a.2.1.length + a.2.2.length + lenG a.2.2 ≤ 1048576
theorem Held.mid {a : AutoT} (h : Held a) : Mid a := ⟨by unfold Held at h; omega, by unfold Held at h; omega, fun r hr => by have := lenG_mem hr; unfold Held at h; omega⟩
theorem szI_ev (l : List Int) (hl : l.length ≤ maxLen) (m : Int) (h0 : 0 ≤ m) (h1 : m ≤ 1048576) : EvP (fun k => laws_szIntS k l m) (fun r => r < 0 ∨ (0 ≤ r ∧ r = m - l.length)) := by
  unfold maxLen at hl
  refine EvP.fn (fun k => laws_szIntS_eq k l m) ?_
  rw [w64 (by omega) (by omega)]
  exact EvP.dec (fun h => EvP.now (.inl (by decide))) (fun h => EvP.now (.inr ⟨by omega, rfl⟩))
theorem szB_ev (l : List Bool) (hl : l.length ≤ maxLen) (m : Int) (h0 : 0 ≤ m) (h1 : m ≤ 1048576) : EvP (fun k => laws_szBoolS k l m) (fun r => r < 0 ∨ (0 ≤ r ∧ r = m - l.length)) := by
  unfold maxLen at hl
  refine EvP.fn (fun k => laws_szBoolS_eq k l m) ?_
  rw [w64 (by omega) (by omega)]
  exact EvP.dec (fun h => EvP.now (.inl (by decide))) (fun h => EvP.now (.inr ⟨by omega, rfl⟩))
theorem szG_loop (gs : List (List Int)) (hl : gs.length ≤ 1048576) (hr : ∀ r ∈ gs, r.length ≤ maxLen) : ∀ (n i : Nat) (m : Int), i + n = gs.length → 0 ≤ m → m ≤ 1048576 → EvP (fun k => laws_szIntSS_L122 k gs m (i : Int)) (fun r => r < 0 ∨ (0 ≤ r ∧ r = m - lenG (gs.drop i)))
  | 0, i, m, h, h0, h1 => by
    refine EvP.fn (fun k => laws_szIntSS_L122_eq k _ _ _) (EvP.decN (by omega) (EvP.now (.inr ⟨h0, ?_⟩)))
    rw [List.drop_eq_nil_of_le (by omega)]; simp [lenG]
  | n + 1, i, m, h, h0, h1 => by
    refine EvP.fn (fun k => laws_szIntSS_L122_eq k _ _ _) (EvP.decY (by omega) (EvP.yes (by omega) (EvP.yes (by omega) ?_)))
    rw [Int.toNat_natCast]
    refine EvP.bind (szI_ev _ (hr _ (getD_mem gs i [] (by omega))) m h0 h1) fun x hx => EvP.dec (fun _ => EvP.now (.inl (by decide))) (fun hx0 => ?_)
    rcases hx with hx | ⟨hx, hx2⟩
    · exact absurd hx hx0
    · rw [w64 (by omega) (by omega)]
      refine (szG_loop gs hl hr n (i + 1) x (by omega) hx (by omega)).mono fun r hr => ?_
      rcases hr with hr | ⟨h2, h3⟩
      · exact .inl hr
      · refine .inr ⟨h2, ?_⟩
        rw [List.drop_eq_getElem_cons (by omega : i < gs.length), lenG, h3, hx2]
        have e : gs.getD i [] = gs[i] := by simp [List.getD, (by omega : i < gs.length)]
        rw [e]; omega
theorem szG_ev (gs : List (List Int)) (hl : gs.length ≤ maxLen) (hr : ∀ r ∈ gs, r.length ≤ maxLen) (m : Int) (h0 : 0 ≤ m) (h1 : m ≤ 1048576) : EvP (fun k => laws_szIntSS k gs m) (fun r => r < 0 ∨ (0 ≤ r ∧ r = m - gs.length - lenG gs)) := by
  have hl2 := hl
  unfold maxLen at hl2
  refine EvP.fn (fun k => laws_szIntSS_eq k gs m) ?_
  rw [w64 (by omega) (by omega)]
  refine EvP.dec (fun h => EvP.now (.inl (by decide))) (fun h => ?_)
  exact (szG_loop gs (by omega) hr gs.length 0 (m - gs.length) (by omega) (by omega) (by omega)).mono fun r hr => by simpa using hr
theorem sz_ev (a : AutoT) (h1 : a.2.1.length ≤ maxLen) (h2 : a.2.2.length ≤ maxLen) (h3 : ∀ r ∈ a.2.2, r.length ≤ maxLen) (m : Int) (m0 : 0 ≤ m) (m1 : m ≤ 1048576) : EvP (fun k => laws_szAuto k a.1 a.2.1 a.2.2 m) (fun r => r < 0 ∨ (0 ≤ r ∧ r ≤ m ∧ Held a)) := by
  refine EvP.fn (fun k => laws_szAuto_eq k _ _ _ _) (EvP.bind (szB_ev a.2.1 h1 m m0 m1) fun x hx => EvP.dec (fun _ => EvP.now (.inl (by decide))) (fun hx0 => ?_))
  rcases hx with hx | ⟨g1, g2⟩
  · exact absurd hx hx0
  refine EvP.bind (szG_ev a.2.2 h2 h3 x g1 (by omega)) fun y hy => EvP.dec (fun _ => EvP.now (.inl (by decide))) (fun hy0 => EvP.now ?_)
  rcases hy with hy | ⟨g3, g4⟩
  · exact absurd hy hy0
  · exact .inr ⟨g3, by omega, by unfold Held; omega⟩
/-- The first cells are those of a list. -/
def LikeL {α : Type} (d : α) (l x : List α) (i : Nat) : Prop := x.length = l.length ∧ ∀ j, j < i → x.getD j d = l.getD j d
theorem LikeL.set {α : Type} {d : α} {l x : List α} {i : Nat} (h : LikeL d l x i) (hi : i < l.length) : LikeL d l (x.set i (l.getD i d)) (i + 1) := by
  refine ⟨by simp [h.1], fun j hj => ?_⟩
  by_cases e : j = i
  · subst e; simp [List.getD, h.1, hi]
  · have := h.2 j (by omega)
    simp only [List.getD, List.getElem?_set_ne (Ne.symm e)] at this ⊢
    exact this
theorem LikeL.all {α : Type} {d : α} {l x : List α} (h : LikeL d l x l.length) : x = l := by
  refine List.ext_getElem h.1 fun j h1 h2 => ?_
  have := h.2 j h2
  simpa [List.getD, h1, h2] using this
theorem LikeL.start {α : Type} (d : α) (l : List α) : LikeL d l (List.replicate l.length d) 0 := ⟨by simp, fun j hj => absurd hj (Nat.not_lt_zero _)⟩
theorem toB_loop (l : List Bool) (hl : l.length ≤ 2000000) : ∀ (n i : Nat) (x : List Bool), i + n = l.length → LikeL false l x i → EvP (fun k => laws_toBoolS_L58 k l x (i : Int)) (fun r => r = l)
  | 0, i, x, h, hx => by
    obtain rfl : i = l.length := by omega
    exact EvP.fn (fun k => laws_toBoolS_L58_eq k _ _ _) (EvP.decN (by omega) (EvP.now hx.all))
  | n + 1, i, x, h, hx => by
    have hxl := hx.1
    refine EvP.fn (fun k => laws_toBoolS_L58_eq k _ _ _) (EvP.decY (by omega) (EvP.yes (by omega) (EvP.yes (by omega) (EvP.yes (by omega) (EvP.yes (by omega) ?_)))))
    rw [Int.toNat_natCast, w64 (by omega) (by omega)]
    exact toB_loop l hl n (i + 1) _ (by omega) (hx.set (by omega))
theorem toB_ev (l : List Bool) (hl : l.length ≤ 2000000) : EvP (fun k => laws_toBoolS k l) (fun r => r = l) := by
  refine EvP.fn (fun k => laws_toBoolS_eq k l) (EvP.yes rfl (EvP.yes (by omega) (EvP.yes (by unfold maxLenE; omega) ?_)))
  rw [Int.toNat_natCast]
  exact toB_loop l hl l.length 0 _ (by omega) (LikeL.start false l)
theorem toI_loop (l : List Int) (hl : l.length ≤ 2000000) : ∀ (n i : Nat) (x : List Int), i + n = l.length → LikeL 0 l x i → EvP (fun k => laws_toIntS_L58 k l x (i : Int)) (fun r => r = l)
  | 0, i, x, h, hx => by
    obtain rfl : i = l.length := by omega
    exact EvP.fn (fun k => laws_toIntS_L58_eq k _ _ _) (EvP.decN (by omega) (EvP.now hx.all))
  | n + 1, i, x, h, hx => by
    have hxl := hx.1
    refine EvP.fn (fun k => laws_toIntS_L58_eq k _ _ _) (EvP.decY (by omega) (EvP.yes (by omega) (EvP.yes (by omega) (EvP.yes (by omega) (EvP.yes (by omega) ?_)))))
    rw [Int.toNat_natCast, w64 (by omega) (by omega)]
    exact toI_loop l hl n (i + 1) _ (by omega) (hx.set (by omega))
theorem toI_ev (l : List Int) (hl : l.length ≤ 2000000) : EvP (fun k => laws_toIntS k l) (fun r => r = l) := by
  refine EvP.fn (fun k => laws_toIntS_eq k l) (EvP.yes rfl (EvP.yes (by omega) (EvP.yes (by unfold maxLenE; omega) ?_)))
  rw [Int.toNat_natCast]
  exact toI_loop l hl l.length 0 _ (by omega) (LikeL.start 0 l)
theorem toG_loop (l : List (List Int)) (hl : l.length ≤ 2000000) (hr : ∀ r ∈ l, r.length ≤ 2000000) : ∀ (n i : Nat) (x : List (List Int)), i + n = l.length → LikeL [] l x i → EvP (fun k => laws_toIntSS_L58 k l x (i : Int)) (fun r => r = l)
  | 0, i, x, h, hx => by
    obtain rfl : i = l.length := by omega
    exact EvP.fn (fun k => laws_toIntSS_L58_eq k _ _ _) (EvP.decN (by omega) (EvP.now hx.all))
  | n + 1, i, x, h, hx => by
    have hxl := hx.1
    refine EvP.fn (fun k => laws_toIntSS_L58_eq k _ _ _) (EvP.decY (by omega) (EvP.yes (by omega) (EvP.yes (by omega) ?_)))
    rw [Int.toNat_natCast]
    refine EvP.bind (toI_ev _ (hr _ (getD_mem l i [] (by omega)))) fun y hy => EvP.yes (by omega) (EvP.yes (by omega) ?_)
    rw [hy, w64 (by omega) (by omega)]
    exact toG_loop l hl hr n (i + 1) _ (by omega) (hx.set (by omega))
theorem toG_ev (l : List (List Int)) (hl : l.length ≤ 2000000) (hr : ∀ r ∈ l, r.length ≤ 2000000) : EvP (fun k => laws_toIntSS k l) (fun r => r = l) := by
  refine EvP.fn (fun k => laws_toIntSS_eq k l) (EvP.yes rfl (EvP.yes (by omega) (EvP.yes (by unfold maxLenE; omega) ?_)))
  rw [Int.toNat_natCast]
  exact toG_loop l hl hr l.length 0 _ (by omega) (LikeL.start [] l)
theorem toA_ev (a : AutoT) (h : Mid a) : EvP (fun k => laws_toAuto k a.1 a.2.1 a.2.2) (fun r => r = a) := by
  refine EvP.fn (fun k => laws_toAuto_eq k _ _ _) (EvP.bind (toB_ev a.2.1 h.1) fun x hx => EvP.bind (toG_ev a.2.2 h.2.1 h.2.2) fun y hy => EvP.now ?_)
  rw [hx, hy]
/-! the same -/
theorem eqB_loop (l : List Bool) (hl : l.length ≤ 2000000) : ∀ (n i : Nat), i + n = l.length → EvP (fun k => laws_eqBoolS_L58 k l l (i : Int)) (fun r => r = true)
  | 0, i, h => EvP.fn (fun k => laws_eqBoolS_L58_eq k _ _ _) (EvP.decN (by omega) (EvP.now rfl))
  | n + 1, i, h => by
    refine EvP.fn (fun k => laws_eqBoolS_L58_eq k _ _ _) (EvP.decY (by omega) (EvP.yes (by omega) (EvP.yes (by omega) (EvP.yes (by omega) (EvP.yes (by omega) (EvP.no (by simp) ?_))))))
    rw [w64 (by omega) (by omega)]
    exact eqB_loop l hl n (i + 1) (by omega)
theorem eqI_loop (l : List Int) (hl : l.length ≤ 2000000) : ∀ (n i : Nat), i + n = l.length → EvP (fun k => laws_eqIntS_L58 k l l (i : Int)) (fun r => r = true)
  | 0, i, h => EvP.fn (fun k => laws_eqIntS_L58_eq k _ _ _) (EvP.decN (by omega) (EvP.now rfl))
  | n + 1, i, h => by
    refine EvP.fn (fun k => laws_eqIntS_L58_eq k _ _ _) (EvP.decY (by omega) (EvP.yes (by omega) (EvP.yes (by omega) (EvP.yes (by omega) (EvP.yes (by omega) (EvP.no (by simp) ?_))))))
    rw [w64 (by omega) (by omega)]
    exact eqI_loop l hl n (i + 1) (by omega)
theorem eqG_loop (l : List (List Int)) (hl : l.length ≤ 2000000) (hr : ∀ r ∈ l, r.length ≤ 2000000) : ∀ (n i : Nat), i + n = l.length → EvP (fun k => laws_eqIntSS_L58 k l l (i : Int)) (fun r => r = true)
  | 0, i, h => EvP.fn (fun k => laws_eqIntSS_L58_eq k _ _ _) (EvP.decN (by omega) (EvP.now rfl))
  | n + 1, i, h => by
    refine EvP.fn (fun k => laws_eqIntSS_L58_eq k _ _ _) (EvP.decY (by omega) (EvP.yes (by omega) (EvP.yes (by omega) (EvP.yes (by omega) (EvP.yes (by omega) ?_)))))
    rw [Int.toNat_natCast]
    refine EvP.bind (P := fun r => r = true) (EvP.fn (fun k => laws_eqIntS_eq k _ _) (EvP.no (by simp) (eqI_loop _ (hr _ (getD_mem l i [] (by omega))) _ 0 (Nat.zero_add _)))) fun b hb => EvP.no (by simp [hb]) ?_
    rw [w64 (by omega) (by omega)]
    exact eqG_loop l hl hr n (i + 1) (by omega)
theorem eqA_ev (a : AutoT) (h : Mid a) : EvP (fun k => laws_eqAuto k a.1 a.2.1 a.2.2 a.1 a.2.1 a.2.2) (fun r => r = true) := by
  refine EvP.fn (fun k => laws_eqAuto_eq k _ _ _ _ _ _) (EvP.no (by simp) ?_)
  refine EvP.bind (P := fun r => r = true) (EvP.fn (fun k => laws_eqBoolS_eq k _ _) (EvP.no (by simp) (eqB_loop a.2.1 h.1 _ 0 (Nat.zero_add _)))) fun b hb => EvP.no (by simp [hb]) ?_
  refine EvP.bind (P := fun r => r = true) (EvP.fn (fun k => laws_eqIntSS_eq k _ _) (EvP.no (by simp) (eqG_loop a.2.2 h.2.1 h.2.2 _ 0 (Nat.zero_add _)))) fun b hb => EvP.no (by simp [hb]) (EvP.now rfl)
/-! what is marked is held -/
theorem markB_len : ∀ (xs : List Bool) (k : Int), (markB k xs).length = xs.length
  | [], _ => rfl
  | _ :: l, k => by simp [markB, markB_len l]
theorem markI_len : ∀ (xs : List Int) (k : Int), (markI k xs).length = xs.length
  | [], _ => rfl
  | _ :: l, k => by simp [markI, markI_len l]
theorem markG_len : ∀ (gs : List (List Int)) (k : Int), (markG k gs).length = gs.length
  | [], _ => rfl
  | _ :: l, k => by simp [markG, markG_len l]
theorem markB_get : ∀ (xs : List Bool) (k : Int) (i : Nat), i < xs.length → (markB k xs).getD i false = decide ((k + i).tmod 3 = 0)
  | [], _, i, h => absurd h (Nat.not_lt_zero _)
  | _ :: l, k, 0, h => by simp [markB]
  | _ :: l, k, i + 1, h => by
    have := markB_get l (k + 1) i (by simpa using h)
    simp only [markB, List.getD_cons_succ, this]
    have e : k + 1 + (i : Int) = k + ((i + 1 : Nat) : Int) := by omega
    rw [e]
theorem markI_get : ∀ (xs : List Int) (k : Int) (i : Nat), i < xs.length → (markI k xs).getD i 0 = k + i
  | [], _, i, h => absurd h (Nat.not_lt_zero _)
  | _ :: l, k, 0, h => by simp [markI]
  | _ :: l, k, i + 1, h => by
    have := markI_get l (k + 1) i (by simpa using h)
    simp only [markI, List.getD_cons_succ, this]
    omega
theorem markG_get : ∀ (gs : List (List Int)) (k : Int) (i : Nat), i < gs.length → (markG k gs).getD i [] = markI (k + (lenG (gs.take i) : Nat)) (gs.getD i [])
  | [], _, i, h => absurd h (Nat.not_lt_zero _)
  | x :: l, k, 0, h => by simp [markG, lenG]
  | x :: l, k, i + 1, h => by
    have := markG_get l (k + (x.length : Nat)) i (by simpa using h)
    simp only [markG, List.getD_cons_succ, List.take_succ_cons, lenG, this]
    have e : k + (x.length : Int) + ((lenG (l.take i) : Nat) : Int) = k + ((x.length + lenG (l.take i) : Nat) : Int) := by omega
    rw [e]
theorem lenG_take : ∀ (gs : List (List Int)) (j : Nat), j < gs.length → lenG (gs.take (j + 1)) = lenG (gs.take j) + (gs.getD j []).length
  | [], _, h => absurd h (Nat.not_lt_zero _)
  | x :: l, 0, h => by simp [lenG]
  | x :: l, j + 1, h => by
    simp only [List.take_succ_cons, lenG, List.getD_cons_succ]
    rw [lenG_take l j (by simpa using h)]; omega
theorem lenG_take_le : ∀ (gs : List (List Int)) (j : Nat), lenG (gs.take j) ≤ lenG gs
  | [], _ => by simp [lenG]
  | x :: l, 0 => by simp [lenG]
  | x :: l, j + 1 => by simp only [List.take_succ_cons, lenG]; have := lenG_take_le l j; omega
theorem heldB_loop (l : List Bool) (c : Int) (h0 : 0 ≤ c) (h1 : c + l.length ≤ 1099511627776) : ∀ (n i : Nat), i + n = l.length → EvP (fun k => laws_heldBoolS_L26 k (markB c l) (c + i) (i : Int)) (fun r => r = c + l.length)
  | 0, i, h => by
    obtain rfl : i = l.length := by omega
    exact EvP.fn (fun k => laws_heldBoolS_L26_eq k _ _ _) (EvP.decN (by rw [markB_len]; omega) (EvP.now rfl))
  | n + 1, i, h => by
    refine EvP.fn (fun k => laws_heldBoolS_L26_eq k _ _ _) (EvP.decY (by rw [markB_len]; omega) (EvP.yes (by omega) (EvP.yes (by rw [markB_len]; omega) (EvP.no ?_ ?_))))
    · rw [Int.toNat_natCast, markB_get l c i (by omega)]; simp
    · rw [w64 (by omega) (by omega), w64 (by omega) (by omega)]
      have e : c + (i : Int) + 1 = c + ((i + 1 : Nat) : Int) := by omega
      rw [e]
      exact heldB_loop l c h0 h1 n (i + 1) (by omega)
theorem heldI_loop (l : List Int) (c : Int) (h0 : 0 ≤ c) (h1 : c + l.length ≤ 1099511627776) : ∀ (n i : Nat), i + n = l.length → EvP (fun k => laws_heldIntS_L26 k (markI c l) (c + i) (i : Int)) (fun r => r = c + l.length)
  | 0, i, h => by
    obtain rfl : i = l.length := by omega
    exact EvP.fn (fun k => laws_heldIntS_L26_eq k _ _ _) (EvP.decN (by rw [markI_len]; omega) (EvP.now rfl))
  | n + 1, i, h => by
    refine EvP.fn (fun k => laws_heldIntS_L26_eq k _ _ _) (EvP.decY (by rw [markI_len]; omega) (EvP.yes (by omega) (EvP.yes (by rw [markI_len]; omega) (EvP.no ?_ ?_))))
    · rw [Int.toNat_natCast, markI_get l c i (by omega)]; simp
    · rw [w64 (by omega) (by omega), w64 (by omega) (by omega)]
      have e : c + (i : Int) + 1 = c + ((i + 1 : Nat) : Int) := by omega
      rw [e]
      exact heldI_loop l c h0 h1 n (i + 1) (by omega)
theorem heldI_ev (l : List Int) (c : Int) (h0 : 0 ≤ c) (h1 : c + l.length ≤ 1099511627776) : EvP (fun k => laws_heldIntS k (markI c l) c) (fun r => r = c + l.length) := by
  refine EvP.fn (fun k => laws_heldIntS_eq k _ _) ?_
  have := heldI_loop l c h0 h1 l.length 0 (by omega)
  simpa using this
theorem heldG_loop (gs : List (List Int)) (c : Int) (h0 : 0 ≤ c) (hl : gs.length ≤ 1099511627776) (h1 : c + lenG gs ≤ 1099511627776) : ∀ (n i : Nat), i + n = gs.length → EvP (fun k => laws_heldIntSS_L26 k (markG c gs) (c + (lenG (gs.take i) : Nat)) (i : Int)) (fun r => r = c + lenG gs)
  | 0, i, h => by
    obtain rfl : i = gs.length := by omega
    refine EvP.fn (fun k => laws_heldIntSS_L26_eq k _ _ _) (EvP.decN (by rw [markG_len]; omega) (EvP.now ?_))
    rw [List.take_length]
  | n + 1, i, h => by
    have t1 := lenG_take gs i (by omega)
    have t2 := lenG_take_le gs (i + 1)
    refine EvP.fn (fun k => laws_heldIntSS_L26_eq k _ _ _) (EvP.decY (by rw [markG_len]; omega) (EvP.yes (by omega) (EvP.yes (by rw [markG_len]; omega) ?_)))
    rw [Int.toNat_natCast, markG_get gs c i (by omega)]
    refine EvP.bind (heldI_ev (gs.getD i []) (c + (lenG (gs.take i) : Nat)) (by omega) (by omega)) fun x hx => EvP.decN (by omega) ?_
    rw [w64 (by omega) (by omega)]
    have e : x = c + ((lenG (gs.take (i + 1)) : Nat) : Int) := by omega
    rw [e]
    exact heldG_loop gs c h0 hl h1 n (i + 1) (by omega)
theorem heldA_ev (b : Int) (es : List Bool) (gs : List (List Int)) (he : es.length + gs.length + lenG gs ≤ 1099511627) : EvP (fun k => laws_heldAuto k b (markB 1 es) (markG (1 + (es.length : Int)) gs) 1) (fun r => r = 1 + ((es.length + lenG gs : Nat) : Int)) := by
  refine EvP.fn (fun k => laws_heldAuto_eq k _ _ _ _) ?_
  have hB : EvP (fun k => laws_heldBoolS k (markB 1 es) 1) (fun r => r = 1 + (es.length : Int)) := by
    refine EvP.fn (fun k => laws_heldBoolS_eq k _ _) ?_
    have := heldB_loop es 1 (by omega) (by omega) es.length 0 (by omega)
    simpa using this
  refine EvP.bind hB fun x hx => EvP.decN (by omega) ?_
  subst hx
  have hG : EvP (fun k => laws_heldIntSS k (markG (1 + (es.length : Int)) gs) (1 + (es.length : Int))) (fun r => r = 1 + (es.length : Int) + lenG gs) := by
    refine EvP.fn (fun k => laws_heldIntSS_eq k _ _) ?_
    have := heldG_loop gs (1 + (es.length : Int)) (by omega) (by omega) (by omega) gs.length 0 (by omega)
    simpa [lenG] using this
  exact EvP.bind hG fun y hy => EvP.decN (by omega) (EvP.now (by omega))
/-- An automaton that is ok is small. -/
theorem okHeld {o : AutoT} (h : autoOk o = true) : o.2.1.length + o.2.2.length + lenG o.2.2 ≤ 100 := by
  have ok := okA h
  have h1 := ok.n
  have h2 := ok.l
  have h3 := lenG_le (c := 4) (gs := o.2.2) (fun r hr => by have := ok.r4 r hr; omega)
  omega
theorem wrapHeld (o : AutoT) : (wrapB o).1.2.1.length + (wrapB o).1.2.2.length + lenG (wrapB o).1.2.2 ≤ 100 := by
  unfold wrapB
  split
  · rename_i h; exact okHeld h
  · simp [lenG]
theorem bothHeld (a b : AutoT) : (both a b).1.2.1.length + (both a b).1.2.2.length + lenG (both a b).1.2.2 ≤ 100 := by
  unfold both
  split
  · exact wrapHeld _
  · simp [lenG]
abbrev SzA (b : Int) (es : List Bool) (gs : List (List Int)) : Prop := (Lit.int .i64 b).wf = true ∧ (es.length ≤ maxLen ∧ ∀ x ∈ es, True) ∧ gs.length ≤ maxLen ∧ ∀ x ∈ gs, x.length ≤ maxLen ∧ ∀ y ∈ x, (Lit.int .i64 y).wf = true
theorem law_ev (b : Int) (es : List Bool) (gs : List (List Int)) (c : Int) (fs : List Bool) (hs : List (List Int)) (q0 : SzA b es gs) (q1 : SzA c fs hs) : EvP (fun k => laws_FnExactAutoBoth k b es gs c fs hs) (fun r => r = true) := by
  refine EvP.fn (fun k => laws_FnExactAutoBoth_eq k b es gs c fs hs) (EvP.bind (sz_ev (b, es, gs) q0.2.1.1 q0.2.2.1 (fun r hr => (q0.2.2.2 r hr).1) 1048576 (by omega) (by omega)) fun s hs1 => EvP.dec (fun _ => EvP.now rfl) (fun h0 => ?_))
  obtain ⟨m0, m1, hh⟩ := hs1.resolve_left h0
  refine EvP.bind (sz_ev (c, fs, hs) q1.2.1.1 q1.2.2.1 (fun r hr => (q1.2.2.2 r hr).1) s m0 m1) fun s2 hs2 => EvP.dec (fun _ => EvP.now rfl) (fun h0 => ?_)
  obtain ⟨_, _, hh2⟩ := hs2.resolve_left h0
  obtain ⟨a, ea⟩ : ∃ a : AutoT, a = (b, es, gs) := ⟨_, rfl⟩
  obtain ⟨d, ed⟩ : ∃ a : AutoT, a = (c, fs, hs) := ⟨_, rfl⟩
  rw [← ea] at hh
  rw [← ed] at hh2
  have hm := hh.mid
  have hm2 := hh2.mid
  have to := toA_ev a hm
  have to2 := toA_ev d hm2
  have hto : EvP (fun k => laws_toAuto k b es gs) (fun r => r = a) := by rw [ea] at to ⊢; exact to
  have hto2 : EvP (fun k => laws_toAuto k c fs hs) (fun r => r = d) := by rw [ed] at to2 ⊢; exact to2
  have hn := bothHeld a d
  have hnm : Mid (both a d).1 := ⟨by omega, by omega, fun r hr => by have := lenG_mem hr; omega⟩
  unfold Held at hh hh2
  clear ea ed to to2
  refine EvP.bind hto fun x1 h1 => EvP.bind hto2 fun x2 h2 => ?_
  subst h1 h2
  refine EvP.bind (specBoth_ev x1 x2) fun w hw => EvP.bind hto fun x3 h3 => EvP.bind hto2 fun x4 h4 => ?_
  subst h3 h4
  refine EvP.bind (implBoth_ev x3 x4 hm hm2) fun g hg => ?_
  subst hg hw
  refine EvP.bind (eqA_ev _ hnm) fun e1 he1 => EvP.yes (by simp [he1]) (EvP.no (by simp) (EvP.bind hto fun x5 h5 => ?_))
  subst h5
  refine EvP.bind (eqA_ev _ hm) fun e2 he2 => EvP.no (by simp [he2]) (EvP.bind hto2 fun x6 h6 => ?_)
  subst h6
  refine EvP.bind (eqA_ev _ hm2) fun e3 he3 => EvP.no (by simp [he3]) (EvP.yes ⟨by omega, by omega⟩ (EvP.yes ⟨by omega, by omega⟩ (EvP.yes (by simp; omega) ?_)))
  refine EvP.bind (eqA_ev _ hnm) fun e4 he4 => EvP.yes (by simp [he4]) (EvP.no (by simp) (EvP.yes ⟨by omega, by omega⟩ ?_))
  have held := heldA_ev (both x5 x6).1.1 (both x5 x6).1.2.1 (both x5 x6).1.2.2 (by omega)
  refine EvP.bind held fun q hq => EvP.decN (by omega) (EvP.no (by simp [hq]) (EvP.bind hto fun x8 h8 => EvP.bind hto2 fun x9 h9 => ?_))
  subst h8 h9
  refine EvP.bind (implBoth_ev x8 x9 hm hm2) fun g hg => ?_
  subst hg
  refine EvP.bind (eqA_ev _ hnm) fun e5 he5 => EvP.yes (by simp [he5]) (EvP.no (by simp) (EvP.bind held fun q hq => EvP.decN (by omega) (EvP.no (by simp [hq]) (EvP.now rfl))))
end Go.Proofs.Ytiiefhpoomliaaa.Pure
