/- What the reader of draws answers: they answer, and within which bounds. -/
import Derived.Test.YtiiefhpoomliaaaEv
import Derived.Test.YtiiefhpoomliaaaEqFnExactAutoNot
namespace Go.Proofs.Ytiiefhpoomliaaa.Pure
open Go Go.Proofs.Ytiiefhpoomliaaa.Eng Go.Proofs.Ytiiefhpoomliaaa.Eq Go.Proofs.Ytiiefhpoomliaaa.Ev
set_option autoImplicit false
set_option linter.unusedVariables false
set_option linter.unusedSimpArgs false
set_option linter.unnecessarySimpa false

def Bytes (s : List Int) : Prop := (∀ x ∈ s, 0 ≤ x ∧ x ≤ 255) ∧ s.length ≤ 2000
/-- A reader, m draws ahead. -/
def Rd (m : Nat) (b : List Int) (p : Int) : Prop := Bytes b ∧ 0 ≤ p ∧ p + m ≤ 100000000
theorem Rd.less {m n : Nat} {b : List Int} {p : Int} (h : Rd m b p) (hn : n ≤ m) : Rd n b p := ⟨h.1, h.2.1, by have := h.2.2; omega⟩

/-! signs -/
def small (c : UInt8) : Bool := decide (97 ≤ c.toNat) && decide (c.toNat ≤ 100)
theorem drop_cons {α : Type} (l : List α) (i : Nat) (d : α) (h : i < l.length) : l.drop i = l.getD i d :: l.drop (i + 1) := by
  rw [List.drop_eq_getElem_cons h, List.getD_eq_getElem?_getD, List.getElem?_eq_getElem h]; rfl
/-! texts -/
def textOk (s : List UInt8) : Bool := s.all small && decide (s.length ≤ 8)
/-! automata drawn -/
abbrev AutoT := Int × List Bool × List (List Int)
/-- Not large. -/
def Sml (a : AutoT) : Prop := a.2.1.length ≤ 10 ∧ a.2.2.length ≤ 10 ∧ ∀ r ∈ a.2.2, r.length ≤ 10
theorem mE {n : Nat} (h : n ≤ 2000000) : n < maxLenE := by unfold maxLenE; omega
/-- Rows of four. -/
def Fours (a : AutoT) : Prop := a.2.1.length ≤ 6 ∧ 1 ≤ a.2.2.length ∧ a.2.2.length ≤ 6 ∧ ∀ r ∈ a.2.2, r.length = 4
theorem copy_loop (x y : AutoT) (hx : Sml x) : ∀ (n i : Nat) (z : AutoT), i + n = x.2.2.length → z.2.2 = x.2.2.take i → EvP (fun k => spec_l13Copy_L58 k x y z (i : Int)) (fun r => r = (z.1, z.2.1, x.2.2))
  | 0, i, z, h, hz => by
    refine EvP.fn (fun k => spec_l13Copy_L58_eq k _ _ _ _) (EvP.decN (by omega) (EvP.now ?_))
    rw [hz, List.take_of_length_le (by omega)]
  | n + 1, i, z, h, hz => by
    have hx2 := hx.2.1
    have hr : (x.2.2.getD i []).length ≤ 10 := hx.2.2 _ (getD_mem _ _ _ (by omega))
    refine EvP.fn (fun k => spec_l13Copy_L58_eq k _ _ _ _) (EvP.decY (by omega) (EvP.yes (by omega) (EvP.yes (by omega) ?_)))
    rw [Int.toNat_natCast]
    refine EvP.yes (mE (by omega)) (EvP.yes (mE (by rw [hz]; simp; omega)) ?_)
    rw [w64 (by omega) (by omega)]
    refine (copy_loop (x.fst, x.snd.fst, x.snd.snd) _ hx n (i + 1) _ (by show i + 1 + n = x.2.2.length; omega) ?_).mono fun r hr => hr
    show z.2.2 ++ [x.2.2.getD i []] = x.2.2.take (i + 1)
    rw [hz, List.take_add_one, List.getD_eq_getElem?_getD, List.getElem?_eq_getElem (by omega)]
    rfl
theorem copy_ev (a : AutoT) (ha : Sml a) : EvP (fun k => spec_l13Copy k a.1 a.2.1 a.2.2) (fun r => r = a) := by
  refine EvP.fn (fun k => spec_l13Copy_eq k _ _ _) (EvP.yes (mE (by have := ha.1; omega)) ?_)
  exact (copy_loop (a.1, a.2.1, a.2.2) _ ha a.2.2.length 0 _ (by show 0 + a.2.2.length = a.2.2.length; omega) rfl).mono fun r hr => hr
theorem Fours.sml {a : AutoT} (h : Fours a) : Sml a := ⟨by have := h.1; omega, by have := h.2.2.1; omega, fun r hr => by rw [h.2.2.2 r hr]; omega⟩
theorem set_mem {α : Type} {l : List α} {i : Nat} {x y : α} (h : y ∈ l.set i x) : y = x ∨ y ∈ l := by
  rcases List.mem_or_eq_of_mem_set h with h | h
  · exact .inr h
  · exact .inl h
/-! valid automata -/
def goalB (n : Nat) (x : Int) : Bool := decide (-1 ≤ x) && decide (x < n)
def rowOk (n : Nat) (row : List Int) : Bool := decide (row.length = 4) && row.all (goalB n)
def autoOk (a : AutoT) : Bool := decide (1 ≤ a.2.1.length) && decide (a.2.1.length ≤ 6) && decide (a.2.2.length = a.2.1.length) && decide (0 ≤ a.1) && decide (a.1 < a.2.1.length) && a.2.2.all (rowOk a.2.1.length)
theorem goal_ev (a : AutoT) (x : Int) : EvP (fun k => impl_Auto_isGoal k a.1 a.2.1 a.2.2 x) (fun r => r = goalB a.2.1.length x) := by
  refine EvP.fn (fun k => impl_Auto_isGoal_eq k _ _ _ _) (EvP.dec (fun h => EvP.now (by simp [goalB, h])) (fun h => EvP.now (by simp [goalB, h])))
theorem badGoal_ev (a : AutoT) (x : Int) : EvP (fun k => impl_AutoOk_1_1 k x a.1 a.2.1 a.2.2) (fun r => r = !goalB a.2.1.length x) := by
  refine EvP.fn (fun k => impl_AutoOk_1_1_eq k _ _ _ _) (EvP.bind (goal_ev a x) fun b hb => EvP.now ?_)
  rw [hb]; cases goalB a.2.1.length x <;> rfl
theorem badRow_loop (a : AutoT) (row : List Int) (hr : row.length ≤ 2000000) : ∀ (n i : Nat), i + n = row.length → EvP (fun k => slices_IndexFunc_Sint_int_L26 k row a.1 a.2.1 a.2.2 (row.length : Int) (i : Int)) (fun r => decide (0 ≤ r) = !(row.drop i).all (goalB a.2.1.length))
  | 0, i, h => by
    refine EvP.fn (fun k => slices_IndexFunc_Sint_int_L26_eq k _ _ _ _ _ _) (EvP.decN (by omega) (EvP.now ?_))
    rw [List.drop_eq_nil_of_le (by omega)]; rfl
  | n + 1, i, h => by
    refine EvP.fn (fun k => slices_IndexFunc_Sint_int_L26_eq k _ _ _ _ _ _) (EvP.decY (by omega) (EvP.yes (by omega) (EvP.yes (by omega) ?_)))
    rw [Int.toNat_natCast, drop_cons row i 0 (by omega)]
    refine EvP.bind (badGoal_ev a _) fun b hb => ?_
    subst hb
    cases hc : goalB a.2.1.length (row.getD i 0) with
    | false => exact EvP.yes rfl (EvP.now (by rw [List.all_cons, hc]; simp))
    | true =>
      refine EvP.no (by simp) ?_
      rw [w64 (by omega) (by omega)]
      exact (badRow_loop a row hr n (i + 1) (by omega)).mono fun r hr => by rw [hr, List.all_cons, hc, Bool.true_and]
theorem badRow_ev (a : AutoT) (row : List Int) (hr : row.length ≤ 2000000) : EvP (fun k => impl_AutoOk_1 k row a.1 a.2.1 a.2.2) (fun r => r = !rowOk a.2.1.length row) := by
  refine EvP.fn (fun k => impl_AutoOk_1_eq k _ _ _ _) (EvP.notF (fun h => ?_) (fun h => EvP.now ?_))
  · have h : row.length = 4 := by omega
    refine EvP.bind (P := fun r => r = !row.all (goalB a.2.1.length)) (EvP.fn (fun k => slices_ContainsFunc_Sint_int_eq k _ _ _ _) (EvP.bind (EvP.fn (fun k => slices_IndexFunc_Sint_int_eq k _ _ _ _) (badRow_loop a row hr row.length 0 (by omega))) fun b hb => EvP.now hb)) fun b hb => EvP.now ?_
    rw [hb]; simp [rowOk, h]
  · have h : ¬ row.length = 4 := by omega
    simp [rowOk, h]
theorem badRows_loop (a : AutoT) (ha : a.2.2.length ≤ 2000000) (hr : ∀ r ∈ a.2.2, r.length ≤ 2000000) : ∀ (n i : Nat), i + n = a.2.2.length → EvP (fun k => slices_IndexFunc_SSint_Sint_L26 k a.2.2 a.1 a.2.1 a.2.2 (a.2.2.length : Int) (i : Int)) (fun r => decide (0 ≤ r) = !(a.2.2.drop i).all (rowOk a.2.1.length))
  | 0, i, h => by
    refine EvP.fn (fun k => slices_IndexFunc_SSint_Sint_L26_eq k _ _ _ _ _ _) (EvP.decN (by omega) (EvP.now ?_))
    rw [List.drop_eq_nil_of_le (by omega)]; rfl
  | n + 1, i, h => by
    refine EvP.fn (fun k => slices_IndexFunc_SSint_Sint_L26_eq k _ _ _ _ _ _) (EvP.decY (by omega) (EvP.yes (by omega) (EvP.yes (by omega) ?_)))
    rw [Int.toNat_natCast, drop_cons a.2.2 i [] (by omega)]
    refine EvP.bind (badRow_ev a _ (hr _ (getD_mem _ _ _ (by omega)))) fun b hb => ?_
    subst hb
    cases hc : rowOk a.2.1.length (a.2.2.getD i []) with
    | false => exact EvP.yes rfl (EvP.now (by rw [List.all_cons, hc]; simp))
    | true =>
      refine EvP.no (by simp) ?_
      rw [w64 (by omega) (by omega)]
      exact (badRows_loop a ha hr n (i + 1) (by omega)).mono fun r hr => by rw [hr, List.all_cons, hc, Bool.true_and]
/-- Short enough to be told. -/
def Mid (a : AutoT) : Prop := a.2.1.length ≤ 2000000 ∧ a.2.2.length ≤ 2000000 ∧ ∀ r ∈ a.2.2, r.length ≤ 2000000
theorem Sml.mid {a : AutoT} (h : Sml a) : Mid a := ⟨by have := h.1; omega, by have := h.2.1; omega, fun r hr => by have := h.2.2 r hr; omega⟩
theorem implAutoOk_ev (a : AutoT) (ha : Mid a) : EvP (fun k => impl_AutoOk k a.1 a.2.1 a.2.2) (fun r => r = autoOk a) := by
  refine EvP.fn (fun k => impl_AutoOk_eq k _ _ _) (EvP.decF (fun h1 => EvP.decF (fun h2 => EvP.notF (fun h3 => EvP.decF (fun h4 => EvP.dec (fun h5 => EvP.now ?_) (fun h5 => ?_)) (fun h => EvP.now ?_)) (fun h => EvP.now ?_)) (fun h => EvP.now ?_)) (fun h => EvP.now ?_))
  · have : ¬ a.1 < a.2.1.length := by omega
    simp [autoOk, this]
  · refine EvP.bind (P := fun r => r = !a.2.2.all (rowOk a.2.1.length)) (EvP.fn (fun k => slices_ContainsFunc_SSint_Sint_eq k _ _ _ _) (EvP.bind (EvP.fn (fun k => slices_IndexFunc_SSint_Sint_eq k _ _ _ _) (badRows_loop a ha.2.1 ha.2.2 a.2.2.length 0 (by omega))) fun b hb => EvP.now hb)) fun b hb => EvP.now ?_
    have e1 : 1 ≤ a.2.1.length := by omega
    have e2 : a.2.1.length ≤ 6 := by omega
    have e3 : a.2.2.length = a.2.1.length := by omega
    have e4 : 0 ≤ a.1 := by omega
    have e5 : a.1 < a.2.1.length := by omega
    rw [hb]; simp only [autoOk, e1, e2, e3, e4, e5, decide_true, Bool.true_and]
    cases a.2.2.all (rowOk a.2.1.length) <;> rfl
  · have : ¬ 0 ≤ a.1 := by omega
    simp [autoOk, this]
  · have : ¬ a.2.2.length = a.2.1.length := by omega
    simp [autoOk, this]
  · have : ¬ a.2.1.length ≤ 6 := by omega
    simp [autoOk, this]
  · have : ¬ 1 ≤ a.2.1.length := by omega
    simp [autoOk, this]
theorem specAutoOk_loops (a : AutoT) (hn : a.2.1.length ≤ 6) (hl : a.2.2.length = a.2.1.length) : ∀ (n i : Nat), i + n = a.2.2.length → EvP (fun k => spec_AutoOk_L122 k a (a.2.1.length : Int) (i : Int)) (fun r => r = (a.2.2.drop i).all (rowOk a.2.1.length))
  | 0, i, h => by
    refine EvP.fn (fun k => spec_AutoOk_L122_eq k _ _ _) (EvP.decN (by omega) (EvP.now ?_))
    rw [List.drop_eq_nil_of_le (by omega)]; rfl
  | n + 1, i, h => by
    refine EvP.fn (fun k => spec_AutoOk_L122_eq k _ _ _) (EvP.decY (by omega) (EvP.yes (by omega) (EvP.yes (by omega) ?_)))
    rw [Int.toNat_natCast, drop_cons a.2.2 i [] (by omega)]
    generalize hrow : a.2.2.getD i [] = row
    refine EvP.notT (fun h4 => EvP.now ?_) (fun h4 => ?_)
    · have : ¬ row.length = 4 := by omega
      rw [List.all_cons]; simp [rowOk, this]
    · have h4 : row.length = 4 := by omega
      have inner : ∀ (q j : Nat), j + q = 4 → EvP (fun k => spec_AutoOk_L15654 k (a.fst, a.snd.fst, a.snd.snd) (a.2.1.length : Int) (i : Int) (j : Int)) (fun r => r = ((row.drop j).all (goalB a.2.1.length) && (a.2.2.drop (i + 1)).all (rowOk a.2.1.length))) := by
        intro q
        induction q with
        | zero =>
          intro j hj
          refine EvP.fn (fun k => spec_AutoOk_L15654_eq k _ _ _ _) (EvP.decN (by omega) ?_)
          rw [w64 (by omega) (by omega), List.drop_eq_nil_of_le (by omega)]
          exact (specAutoOk_loops a hn hl n (i + 1) (by omega)).mono fun r hr => by rw [hr]; rfl
        | succ q ih =>
          intro j hj
          refine EvP.fn (fun k => spec_AutoOk_L15654_eq k _ _ _ _) (EvP.decY (by omega) (EvP.yes (by omega) (EvP.yes (by show (i : Int) < (a.2.2.length : Int); omega) (EvP.yes (by omega) ?_))))
          simp only [Int.toNat_natCast, hrow]
          rw [drop_cons row j 0 (by omega)]
          refine EvP.yes (by omega) (EvP.decF (fun h1 => EvP.yes (by omega) (EvP.yes (by omega) (EvP.yes (by omega) (EvP.yes (by omega) (EvP.dec (fun h2 => EvP.now ?_) (fun h2 => ?_)))))) (fun h1 => EvP.now ?_))
          · have : ¬ row.getD j 0 < a.2.1.length := by omega
            rw [List.all_cons, goalB]; simp [-List.getD_eq_getElem?_getD, this]
          · have e1 : -1 ≤ row.getD j 0 := by omega
            have e2 : row.getD j 0 < a.2.1.length := by omega
            rw [w64 (by omega) (by omega)]
            refine (ih (j + 1) (by omega)).mono fun r hr => ?_
            rw [hr, List.all_cons]
            have : goalB a.2.1.length (row.getD j 0) = true := by simp only [goalB, e1, e2, decide_true, Bool.and_self]
            rw [this, Bool.true_and]
          · have : ¬ -1 ≤ row.getD j 0 := by omega
            rw [List.all_cons, goalB]; simp [-List.getD_eq_getElem?_getD, this]
      refine (inner 4 0 (by omega)).mono fun r hr => ?_
      rw [hr, List.all_cons, rowOk, h4]; simp
theorem specAutoOk_ev (a : AutoT) : EvP (fun k => spec_AutoOk k a.1 a.2.1 a.2.2) (fun r => r = autoOk a) := by
  refine EvP.fn (fun k => spec_AutoOk_eq k _ _ _) (EvP.decF (fun h1 => EvP.decF (fun h2 => EvP.notF (fun h3 => EvP.decF (fun h4 => EvP.dec (fun h5 => EvP.now ?_) (fun h5 => ?_)) (fun h => EvP.now ?_)) (fun h => EvP.now ?_)) (fun h => EvP.now ?_)) (fun h => EvP.now ?_))
  · have : ¬ a.1 < a.2.1.length := by omega
    simp [autoOk, this]
  · refine (specAutoOk_loops a (by omega) (by omega) a.2.2.length 0 (by omega)).mono fun r hr => ?_
    have e1 : 1 ≤ a.2.1.length := by omega
    have e2 : a.2.1.length ≤ 6 := by omega
    have e3 : a.2.2.length = a.2.1.length := by omega
    have e4 : 0 ≤ a.1 := by omega
    have e5 : a.1 < a.2.1.length := by omega
    rw [hr]; simp only [autoOk, e1, e2, e3, e4, e5, decide_true, Bool.true_and, List.drop_zero]
  · have : ¬ 0 ≤ a.1 := by omega
    simp [autoOk, this]
  · have : ¬ a.2.2.length = a.2.1.length := by omega
    simp [autoOk, this]
  · have : ¬ a.2.1.length ≤ 6 := by omega
    simp [autoOk, this]
  · have : ¬ 1 ≤ a.2.1.length := by omega
    simp [autoOk, this]
/-! products -/
abbrev PairsT := List (Int × Int)
/-- The place of two places among others, or -1. -/
def fi : PairsT → Int × Int → Int
  | [], _ => -1
  | x :: l, y => if x = y then 0 else (if fi l y < 0 then -1 else fi l y + 1)
theorem fi_range (y : Int × Int) : ∀ l : PairsT, (fi l y = -1 ∧ y ∉ l) ∨ (0 ≤ fi l y ∧ fi l y < l.length ∧ l.getD (fi l y).toNat (0, 0) = y)
  | [] => .inl ⟨rfl, by simp⟩
  | x :: l => by
    unfold fi
    split
    · rename_i h; right; exact ⟨by omega, by simp, by simpa using h⟩
    · rename_i h
      rcases fi_range y l with ⟨h1, h2⟩ | ⟨h1, h2, h3⟩
      · left; rw [h1]; exact ⟨rfl, by simp only [List.mem_cons, not_or]; exact ⟨Ne.symm h, h2⟩⟩
      · right
        have : ¬ fi l y < 0 := by omega
        rw [if_neg this]
        refine ⟨by omega, by simp; omega, ?_⟩
        have e : (fi l y + 1).toNat = (fi l y).toNat + 1 := by omega
        rw [e]; exact h3
theorem fi_step (l : PairsT) (y : Int × Int) (i : Nat) (h : i < l.length) (hd : ¬ l.getD i (0, 0) = y) : fi (l.drop i) y = (if fi (l.drop (i + 1)) y < 0 then -1 else fi (l.drop (i + 1)) y + 1) := by
  rw [drop_cons l i (0, 0) h, fi, if_neg hd]
/-- Where one goes. -/
def goR (a : AutoT) (p : Int) (k : Nat) : Int := (a.2.2.getD p.toNat []).getD k 0
def endR (a : AutoT) (p : Int) : Bool := a.2.1.getD p.toNat false
def cellB (a b : AutoT) (p : Int × Int) (k : Nat) (ps : PairsT) : PairsT × Int :=
  if 0 ≤ goR a p.1 k ∧ 0 ≤ goR b p.2 k then (if fi ps (goR a p.1 k, goR b p.2 k) < 0 then (ps ++ [(goR a p.1 k, goR b p.2 k)], (ps.length : Int)) else (ps, fi ps (goR a p.1 k, goR b p.2 k))) else (ps, -1)
def rowB (a b : AutoT) (p : Int × Int) : Nat → Nat → PairsT → List Int → PairsT × List Int
  | 0, _, ps, row => (ps, row)
  | n + 1, j, ps, row => rowB a b p n (j + 1) (cellB a b p j ps).1 (row ++ [(cellB a b p j ps).2])
def bothB (a b : AutoT) : Nat → Nat → PairsT → List Bool → List (List Int) → PairsT × List Bool × List (List Int)
  | 0, _, ps, es, gs => (ps, es, gs)
  | n + 1, i, ps, es, gs => if i < ps.length then bothB a b n (i + 1) (rowB a b (ps.getD i (0, 0)) 4 0 ps []).1 (es ++ [endR a (ps.getD i (0, 0)).1 && endR b (ps.getD i (0, 0)).2]) (gs ++ [(rowB a b (ps.getD i (0, 0)) 4 0 ps []).2]) else (ps, es, gs)
def wrapB (o : AutoT) : AutoT × Bool := if autoOk o then (o, true) else ((0, [], []), false)
def both (a b : AutoT) : AutoT × Bool := if autoOk a && autoOk b then wrapB (0, (bothB a b 37 0 [(a.1, b.1)] [] []).2) else ((0, [], []), false)
/-- Pairs of places, each once. -/
def PsOk (a b : AutoT) (ps : PairsT) : Prop := ps.Nodup ∧ ∀ p ∈ ps, 0 ≤ p.1 ∧ p.1 < a.2.1.length ∧ 0 ≤ p.2 ∧ p.2 < b.2.1.length
structure OkA (a : AutoT) : Prop where
  n : a.2.1.length ≤ 6
  l : a.2.2.length = a.2.1.length
  b0 : 0 ≤ a.1
  b1 : a.1 < a.2.1.length
  r4 : ∀ r ∈ a.2.2, r.length = 4
  rg : ∀ r ∈ a.2.2, ∀ x ∈ r, -1 ≤ x ∧ x < a.2.1.length
theorem okA {a : AutoT} (h : autoOk a = true) : OkA a := by
  simp only [autoOk, Bool.and_eq_true, decide_eq_true_eq, List.all_eq_true] at h
  obtain ⟨⟨⟨⟨⟨h1, h2⟩, h3⟩, h4⟩, h5⟩, h6⟩ := h
  refine ⟨h2, h3, h4, h5, fun r hr => ?_, fun r hr x hx => ?_⟩
  · have := h6 r hr; simp only [rowOk, Bool.and_eq_true, decide_eq_true_eq] at this; exact this.1
  · have := h6 r hr
    simp only [rowOk, Bool.and_eq_true, decide_eq_true_eq, List.all_eq_true] at this
    have := this.2 x hx
    simp only [goalB, Bool.and_eq_true, decide_eq_true_eq] at this
    exact this
theorem OkA.mid {a : AutoT} (h : OkA a) : Mid a := ⟨by have := h.n; omega, by have := h.n; have := h.l; omega, fun r hr => by rw [h.r4 r hr]; omega⟩
theorem OkA.go {a : AutoT} (h : OkA a) {p : Int} (h0 : 0 ≤ p) (h1 : p < a.2.1.length) {k : Nat} (hk : k < 4) : -1 ≤ goR a p k ∧ goR a p k < a.2.1.length ∧ (a.2.2.getD p.toNat []).length = 4 := by
  have hm : a.2.2.getD p.toNat [] ∈ a.2.2 := getD_mem _ _ _ (by have := h.l; omega)
  have h4 := h.r4 _ hm
  have := h.rg _ hm _ (getD_mem _ k 0 (by omega))
  exact ⟨this.1, this.2, h4⟩
theorem nodup_lt : ∀ (n : Nat) (l : List Nat), l.Nodup → (∀ x ∈ l, x < n) → l.length ≤ n
  | 0, l, _, h => by
    cases l with
    | nil => simp
    | cons x l => exact absurd (h x (by simp)) (Nat.not_lt_zero _)
  | n + 1, l, hn, h => by
    by_cases hm : n ∈ l
    · have h1 := nodup_lt n (l.erase n) (hn.erase n) (fun x hx => by
        have := (hn.mem_erase_iff.1 hx)
        have := h x this.2
        omega)
      rw [List.length_erase_of_mem hm] at h1
      omega
    · have := nodup_lt n l hn (fun x hx => by
        have h2 := h x hx
        have : x ≠ n := fun e => hm (e ▸ hx)
        omega)
      omega
theorem PsOk.len {a b : AutoT} (ha : OkA a) (hb : OkA b) {ps : PairsT} (h : PsOk a b ps) : ps.length ≤ 36 := by
  have hn := ha.n
  have hm := hb.n
  have h1 : (ps.map fun p => p.1.toNat * 6 + p.2.toNat).Nodup := by
    refine List.pairwise_map.2 (h.1.imp_of_mem fun {p q} hp hq hne e => hne ?_)
    have h1 := h.2 p hp
    have h2 := h.2 q hq
    exact Prod.ext (by omega) (by omega)
  have := nodup_lt 36 _ h1 (fun x hx => by
    obtain ⟨p, hp, rfl⟩ := List.mem_map.1 hx
    have h1 := h.2 p hp
    omega)
  simpa using this
theorem cell_ok {a b : AutoT} (ha : OkA a) (hb : OkA b) {ps : PairsT} (h : PsOk a b ps) {p : Int × Int} (hp : 0 ≤ p.1 ∧ p.1 < a.2.1.length ∧ 0 ≤ p.2 ∧ p.2 < b.2.1.length) {k : Nat} (hk : k < 4) :
    PsOk a b (cellB a b p k ps).1 := by
  unfold cellB
  split
  · rename_i h0
    split
    · rename_i hf
      have hnm : (goR a p.1 k, goR b p.2 k) ∉ ps := by
        rcases fi_range (goR a p.1 k, goR b p.2 k) ps with ⟨_, h2⟩ | ⟨h1, _⟩
        · exact h2
        · omega
      have g1 := ha.go hp.1 hp.2.1 hk
      have g2 := hb.go hp.2.2.1 hp.2.2.2 hk
      refine ⟨?_, fun q hq => ?_⟩
      · exact List.nodup_append.2 ⟨h.1, by simp, fun x hx y hy => by rw [List.mem_singleton.1 hy]; exact fun e => hnm (e ▸ hx)⟩
      · rcases List.mem_append.1 hq with hq | hq
        · exact h.2 q hq
        · rw [List.mem_singleton.1 hq]; exact ⟨h0.1, g1.2.1, h0.2, g2.2.1⟩
    · exact h
  · exact h
theorem row_ok {a b : AutoT} (ha : OkA a) (hb : OkA b) {p : Int × Int} (hp : 0 ≤ p.1 ∧ p.1 < a.2.1.length ∧ 0 ≤ p.2 ∧ p.2 < b.2.1.length) : ∀ (n j : Nat) {ps : PairsT} {row : List Int}, j + n ≤ 4 → PsOk a b ps → PsOk a b (rowB a b p n j ps row).1
  | 0, j, ps, row, _, h => h
  | n + 1, j, ps, row, hj, h => row_ok ha hb hp n (j + 1) (by omega) (cell_ok ha hb h hp (by omega))
theorem start_ok {a b : AutoT} (ha : OkA a) (hb : OkA b) : PsOk a b [(a.1, b.1)] :=
  ⟨by simp, fun p hp => by rw [List.mem_singleton.1 hp]; exact ⟨ha.b0, ha.b1, hb.b0, hb.b1⟩⟩
theorem cell_pre (a b : AutoT) (p : Int × Int) (k : Nat) (ps : PairsT) : ∃ t, (cellB a b p k ps).1 = ps ++ t := by
  unfold cellB
  split
  · split
    · exact ⟨_, rfl⟩
    · exact ⟨[], by simp⟩
  · exact ⟨[], by simp⟩
theorem row_pre (a b : AutoT) (p : Int × Int) : ∀ (n j : Nat) (ps : PairsT) (row : List Int), ∃ t, (rowB a b p n j ps row).1 = ps ++ t
  | 0, j, ps, row => ⟨[], by simp [rowB]⟩
  | n + 1, j, ps, row => by
    obtain ⟨t, ht⟩ := cell_pre a b p j ps
    obtain ⟨t', ht'⟩ := row_pre a b p n (j + 1) (cellB a b p j ps).1 (row ++ [(cellB a b p j ps).2])
    exact ⟨t ++ t', by rw [rowB, ht', ht, List.append_assoc]⟩
theorem row_len (a b : AutoT) (p : Int × Int) : ∀ (n j : Nat) (ps : PairsT) (row : List Int), (rowB a b p n j ps row).2.length = row.length + n
  | 0, j, ps, row => rfl
  | n + 1, j, ps, row => by rw [rowB, row_len]; simp; omega
theorem getD_pre {α : Type} (l t : List α) (i : Nat) (d : α) (h : i < l.length) : (l ++ t).getD i d = l.getD i d := by
  rw [List.getD_eq_getElem?_getD, List.getElem?_append_left h, ← List.getD_eq_getElem?_getD]
/-! what a product takes in -/
def walkA (a : AutoT) : Int → List UInt8 → Bool
  | p, [] => endR a p
  | p, c :: s => if goR a p (c.toNat - 97) < 0 then false else walkA a (goR a p (c.toNat - 97)) s
def isA (a : AutoT) (s : List UInt8) : Bool := autoOk a && (textOk s && walkA a a.1 s)
/-- A row that tells where two go. -/
def RowG (a b : AutoT) (ps : PairsT) (p : Int × Int) (row : List Int) (n : Nat) : Prop :=
  ∀ k, k < n → if 0 ≤ goR a p.1 k ∧ 0 ≤ goR b p.2 k then (∃ j : Nat, j < ps.length ∧ row.getD k 0 = j ∧ ps.getD j (0, 0) = (goR a p.1 k, goR b p.2 k)) else row.getD k 0 = -1
theorem RowG.more {a b : AutoT} {ps : PairsT} {p : Int × Int} {row : List Int} {n : Nat} (h : RowG a b ps p row n) (t : PairsT) : RowG a b (ps ++ t) p row n := fun k hk => by
  have := h k hk
  split
  · rename_i hc
    rw [if_pos hc] at this
    obtain ⟨j, h1, h2, h3⟩ := this
    exact ⟨j, by simp; omega, h2, by rw [getD_pre _ _ _ _ h1]; exact h3⟩
  · rename_i hc
    rw [if_neg hc] at this; exact this
theorem rowB_ok (a b : AutoT) (p : Int × Int) : ∀ (n j : Nat) {ps : PairsT} {row : List Int}, row.length = j → RowG a b ps p row j → RowG a b (rowB a b p n j ps row).1 p (rowB a b p n j ps row).2 (j + n)
  | 0, j, ps, row, hr, h => h
  | n + 1, j, ps, row, hr, h => by
    rw [rowB]
    obtain ⟨t, ht⟩ := cell_pre a b p j ps
    have e : j + (n + 1) = j + 1 + n := by omega
    rw [e]
    refine rowB_ok a b p n (j + 1) (by simp [hr]) (fun k hk => ?_)
    by_cases hkj : k < j
    · have := (h.more t) k hkj
      rw [ht, getD_pre _ _ _ _ (by omega)]
      exact this
    · obtain rfl : k = j := by omega
      have e2 : (row ++ [(cellB a b p k ps).2]).getD k 0 = (cellB a b p k ps).2 := by
        rw [List.getD_eq_getElem?_getD, List.getElem?_append_right (by omega)]; simp [hr]
      rw [e2]
      by_cases hc : 0 ≤ goR a p.1 k ∧ 0 ≤ goR b p.2 k
      · rw [if_pos hc]
        by_cases hf : fi ps (goR a p.1 k, goR b p.2 k) < 0
        · have e3 : cellB a b p k ps = (ps ++ [(goR a p.1 k, goR b p.2 k)], (ps.length : Int)) := by unfold cellB; rw [if_pos hc, if_pos hf]
          rw [e3]
          exact ⟨ps.length, by simp, rfl, by rw [List.getD_eq_getElem?_getD, List.getElem?_append_right (Nat.le_refl _)]; simp⟩
        · have e3 : cellB a b p k ps = (ps, fi ps (goR a p.1 k, goR b p.2 k)) := by unfold cellB; rw [if_pos hc, if_neg hf]
          rw [e3]
          rcases fi_range (goR a p.1 k, goR b p.2 k) ps with ⟨h3, _⟩ | ⟨h3, h4, h5⟩
          · omega
          · exact ⟨(fi ps (goR a p.1 k, goR b p.2 k)).toNat, by show _ < ps.length; omega, by show fi ps _ = _; omega, h5⟩
      · rw [if_neg hc]
        have e3 : cellB a b p k ps = (ps, -1) := by unfold cellB; rw [if_neg hc]
        rw [e3]
structure GoodB (a b : AutoT) (ps : PairsT) (es : List Bool) (gs : List (List Int)) (i : Nat) : Prop where
  e : es.length = i
  g : gs.length = i
  ends : ∀ t, t < i → es.getD t false = (endR a (ps.getD t (0, 0)).1 && endR b (ps.getD t (0, 0)).2)
  rows : ∀ t, t < i → RowG a b ps (ps.getD t (0, 0)) (gs.getD t []) 4
theorem bothB_ok (a b : AutoT) : ∀ (n i : Nat) {ps : PairsT} {es : List Bool} {gs : List (List Int)}, i ≤ ps.length → GoodB a b ps es gs i →
    ∃ i', i' ≤ (bothB a b n i ps es gs).1.length ∧ GoodB a b (bothB a b n i ps es gs).1 (bothB a b n i ps es gs).2.1 (bothB a b n i ps es gs).2.2 i' ∧ (37 ≤ n + i → (bothB a b n i ps es gs).1.length ≤ 36 → i' = (bothB a b n i ps es gs).1.length) ∧ ∃ t, (bothB a b n i ps es gs).1 = ps ++ t
  | 0, i, ps, es, gs, hi, h => ⟨i, hi, h, fun h1 h2 => by have : ps.length ≤ 36 := h2; omega, [], by simp [bothB]⟩
  | n + 1, i, ps, es, gs, hi, h => by
    unfold bothB
    split
    · rename_i hlt
      obtain ⟨t, ht⟩ := row_pre a b (ps.getD i (0, 0)) 4 0 ps []
      have hrow := rowB_ok a b (ps.getD i (0, 0)) 4 0 (ps := ps) (row := []) rfl (fun k hk => absurd hk (Nat.not_lt_zero _))
      have hG : GoodB a b (rowB a b (ps.getD i (0, 0)) 4 0 ps []).1 (es ++ [endR a (ps.getD i (0, 0)).1 && endR b (ps.getD i (0, 0)).2]) (gs ++ [(rowB a b (ps.getD i (0, 0)) 4 0 ps []).2]) (i + 1) := by
        have he := h.e
        have hg := h.g
        refine ⟨by simp [he], by simp [hg], fun u hu => ?_, fun u hu => ?_⟩
        · rw [ht]
          by_cases hui : u < i
          · rw [getD_pre _ _ _ _ (by omega), getD_pre _ _ _ _ (by omega)]; exact h.ends u hui
          · obtain rfl : u = i := by omega
            rw [getD_pre ps t u _ hlt]
            rw [List.getD_eq_getElem?_getD, List.getElem?_append_right (by omega)]; simp [he]
        · by_cases hui : u < i
          · rw [ht, getD_pre _ _ _ _ (by omega), getD_pre _ _ _ _ (by omega)]; exact (h.rows u hui).more t
          · obtain rfl : u = i := by omega
            have e1 : (rowB a b (ps.getD u (0, 0)) 4 0 ps []).1.getD u (0, 0) = ps.getD u (0, 0) := by rw [ht]; exact getD_pre _ _ _ _ hlt
            have e2 : (gs ++ [(rowB a b (ps.getD u (0, 0)) 4 0 ps []).2]).getD u [] = (rowB a b (ps.getD u (0, 0)) 4 0 ps []).2 := by
              rw [List.getD_eq_getElem?_getD, List.getElem?_append_right (by omega)]; simp [hg]
            rw [e1, e2]; exact hrow
      obtain ⟨i', g1, g2, g3, t', g4⟩ := bothB_ok a b n (i + 1) (by rw [ht]; simp; omega) hG
      exact ⟨i', g1, g2, fun h1 h2 => g3 (by omega) h2, t ++ t', by rw [g4, ht, List.append_assoc]⟩
    · rename_i hge
      exact ⟨i, hi, h, fun _ _ => by show i = ps.length; omega, [], by simp⟩
theorem psok_bothB {a b : AutoT} (ha : OkA a) (hb : OkA b) : ∀ (n i : Nat) {ps : PairsT} {es : List Bool} {gs : List (List Int)}, PsOk a b ps → PsOk a b (bothB a b n i ps es gs).1
  | 0, i, ps, es, gs, h => h
  | n + 1, i, ps, es, gs, h => by
    unfold bothB
    split
    · rename_i hlt
      exact psok_bothB ha hb n (i + 1) (row_ok ha hb (h.2 _ (getD_mem ps i (0, 0) hlt)) 4 0 (by omega) h)
    · exact h
theorem both_walk {a b : AutoT} {ps : PairsT} {es : List Bool} {gs : List (List Int)} (H : GoodB a b ps es gs ps.length) (x : Int) : ∀ (s : List UInt8) (i : Nat), s.all small = true → i < ps.length →
    walkA (x, es, gs) (i : Int) s = (walkA a (ps.getD i (0, 0)).1 s && walkA b (ps.getD i (0, 0)).2 s)
  | [], i, _, hi => by
    have := H.ends i hi
    simp only [walkA]
    rw [← this]; simp [endR]
  | c :: s, i, hs, hi => by
    simp only [List.all_cons, Bool.and_eq_true] at hs
    have hk : c.toNat - 97 < 4 := by
      have := hs.1
      simp only [small, Bool.and_eq_true, decide_eq_true_eq] at this
      omega
    have hrow := H.rows i hi (c.toNat - 97) hk
    simp only [walkA]
    have e : goR (x, es, gs) (i : Int) (c.toNat - 97) = (gs.getD i []).getD (c.toNat - 97) 0 := by simp [goR]
    rw [e]
    by_cases hc : 0 ≤ goR a (ps.getD i (0, 0)).1 (c.toNat - 97) ∧ 0 ≤ goR b (ps.getD i (0, 0)).2 (c.toNat - 97)
    · rw [if_pos hc] at hrow
      obtain ⟨j, h1, h2, h3⟩ := hrow
      rw [h2, if_neg (by omega), if_neg (by omega), if_neg (by omega), both_walk H x s j hs.2 h1, h3]
    · rw [if_neg hc] at hrow
      rw [hrow, if_pos (by omega)]
      by_cases h0 : goR a (ps.getD i (0, 0)).1 (c.toNat - 97) < 0
      · rw [if_pos h0]; rfl
      · rw [if_neg h0, if_pos (by omega)]; simp
theorem both_is {a b : AutoT} (h : (both a b).2 = true) (s : List UInt8) : autoOk a = true ∧ autoOk b = true ∧ autoOk (both a b).1 = true ∧ isA (both a b).1 s = (isA a s && isA b s) := by
  unfold both at h ⊢
  split at h
  case isFalse => cases h
  rename_i hab
  simp only [Bool.and_eq_true] at hab
  unfold wrapB at h
  split at h
  case isFalse => cases h
  rename_i hok
  rw [if_pos (by simp [hab])]
  unfold wrapB
  rw [if_pos hok]
  refine ⟨hab.1, hab.2, hok, ?_⟩
  have ha := okA hab.1
  have hb := okA hab.2
  obtain ⟨i', g1, g2, g3, t, g4⟩ := bothB_ok a b 37 0 (ps := [(a.1, b.1)]) (es := []) (gs := []) (by simp) ⟨rfl, rfl, fun t ht => absurd ht (Nat.not_lt_zero _), fun t ht => absurd ht (Nat.not_lt_zero _)⟩
  have hlen := (psok_bothB ha hb 37 0 (es := []) (gs := []) (start_ok ha hb)).len ha hb
  have e := g3 (by omega) hlen
  rw [e] at g2
  have hpos : 0 < (bothB a b 37 0 [(a.1, b.1)] [] []).1.length := by rw [g4]; simp
  have h0 : (bothB a b 37 0 [(a.1, b.1)] [] []).1.getD 0 (0, 0) = (a.1, b.1) := by rw [g4]; rfl
  unfold isA
  rw [hab.1, hab.2, hok]
  cases ht : textOk s with
  | false => simp
  | true =>
    simp only [textOk, Bool.and_eq_true] at ht
    have := both_walk g2 0 s 0 ht.1 hpos
    rw [h0] at this
    simp only [Bool.true_and]
    exact this
/-- The other way round. -/
def swP (p : Int × Int) : Int × Int := (p.2, p.1)
theorem fi_swap (y : Int × Int) : ∀ l : PairsT, fi (l.map swP) (swP y) = fi l y
  | [] => rfl
  | x :: l => by
    have e : (swP x = swP y) ↔ x = y := ⟨fun h => by simp only [swP, Prod.mk.injEq] at h; exact Prod.ext h.2 h.1, fun h => by rw [h]⟩
    simp only [List.map_cons, fi, e, fi_swap y l]
theorem cell_swap (a b : AutoT) (p : Int × Int) (k : Nat) (ps : PairsT) : cellB b a (swP p) k (ps.map swP) = ((cellB a b p k ps).1.map swP, (cellB a b p k ps).2) := by
  have e : fi (ps.map swP) (goR b p.2 k, goR a p.1 k) = fi ps (goR a p.1 k, goR b p.2 k) := fi_swap (goR a p.1 k, goR b p.2 k) ps
  have l : cellB b a (swP p) k (ps.map swP) = (if 0 ≤ goR b p.2 k ∧ 0 ≤ goR a p.1 k then (if fi (ps.map swP) (goR b p.2 k, goR a p.1 k) < 0 then (ps.map swP ++ [(goR b p.2 k, goR a p.1 k)], ((ps.map swP).length : Int)) else (ps.map swP, fi (ps.map swP) (goR b p.2 k, goR a p.1 k))) else (ps.map swP, -1)) := rfl
  rw [l]
  by_cases h : 0 ≤ goR a p.1 k ∧ 0 ≤ goR b p.2 k
  · rw [if_pos ⟨h.2, h.1⟩]
    by_cases h2 : fi ps (goR a p.1 k, goR b p.2 k) < 0
    · have r : cellB a b p k ps = (ps ++ [(goR a p.1 k, goR b p.2 k)], (ps.length : Int)) := by unfold cellB; rw [if_pos h, if_pos h2]
      rw [if_pos (by rw [e]; exact h2), r]; simp [swP]
    · have r : cellB a b p k ps = (ps, fi ps (goR a p.1 k, goR b p.2 k)) := by unfold cellB; rw [if_pos h, if_neg h2]
      rw [if_neg (by rw [e]; exact h2), r, e]
  · have r : cellB a b p k ps = (ps, -1) := by unfold cellB; rw [if_neg h]
    rw [if_neg (fun h' => h ⟨h'.2, h'.1⟩), r]
theorem row_swap (a b : AutoT) (p : Int × Int) : ∀ (n j : Nat) (ps : PairsT) (row : List Int), rowB b a (swP p) n j (ps.map swP) row = ((rowB a b p n j ps row).1.map swP, (rowB a b p n j ps row).2)
  | 0, j, ps, row => rfl
  | n + 1, j, ps, row => by rw [rowB, rowB, cell_swap]; exact row_swap a b p n (j + 1) _ _
theorem bothB_swap (a b : AutoT) : ∀ (n i : Nat) (ps : PairsT) (es : List Bool) (gs : List (List Int)), (bothB b a n i (ps.map swP) es gs).2 = (bothB a b n i ps es gs).2
  | 0, i, ps, es, gs => rfl
  | n + 1, i, ps, es, gs => by
    unfold bothB
    simp only [List.length_map]
    split
    · rename_i h
      have e : (ps.map swP).getD i (0, 0) = swP (ps.getD i (0, 0)) := by
        rw [List.getD_eq_getElem?_getD, List.getD_eq_getElem?_getD, List.getElem?_map, List.getElem?_eq_getElem h]; rfl
      rw [e, row_swap]
      have e2 : (endR b (swP (ps.getD i (0, 0))).1 && endR a (swP (ps.getD i (0, 0))).2) = (endR a (ps.getD i (0, 0)).1 && endR b (ps.getD i (0, 0)).2) := Bool.and_comm _ _
      rw [e2]
      exact bothB_swap a b n (i + 1) _ _ _
    · rfl
theorem both_swap (a b : AutoT) : both b a = both a b := by
  unfold both
  have e := bothB_swap a b 37 0 [(a.1, b.1)] [] []
  have e2 : [(a.1, b.1)].map swP = [(b.1, a.1)] := rfl
  rw [e2] at e
  rw [e, Bool.and_comm]
/-! the same -/
theorem drop_eq_iff {α : Type} (l m : List α) (i : Nat) (d : α) (hl : i < l.length) (hm : i < m.length) : (l.drop i = m.drop i) ↔ (l.getD i d = m.getD i d ∧ l.drop (i + 1) = m.drop (i + 1)) := by
  rw [drop_cons l i d hl, drop_cons m i d hm]
  exact ⟨fun h => by simpa only [List.cons.injEq] using h, fun h => by rw [h.1, h.2]⟩
/-! strings.Trim -/
theorem dropWhile_all {α : Type} (p : α → Bool) : ∀ l : List α, l.dropWhile p = [] ↔ l.all p = true
  | [] => by simp
  | x :: l => by
    rw [List.dropWhile_cons]
    cases h : p x with
    | true => simp only [if_true, List.all_cons, h, Bool.true_and]; exact dropWhile_all p l
    | false => simp [h]
theorem trim_nil (s c : List UInt8) : (trimE s c = []) ↔ s.all c.contains = true := by
  unfold trimE
  rw [List.reverse_eq_nil_iff, dropWhile_all, List.all_reverse, ← dropWhile_all]
  constructor
  · intro h
    have h1 := (dropWhile_all _ _).1 h
    cases hd : s.dropWhile c.contains with
    | nil => exact (dropWhile_all _ _).1 hd
    | cons x l =>
      exfalso
      have h2 : (x :: l).dropWhile c.contains = [] := hd ▸ h
      have h3 : c.contains x = false := by
        have := List.head?_dropWhile_not c.contains s
        rw [hd] at this; simpa using this
      rw [List.dropWhile_cons, h3] at h2
      simp at h2
  · intro h
    rw [(dropWhile_all _ _).2 h]; rfl
/-! a walk by a text -/
def abcd : List UInt8 := [97, 98, 99, 100]
theorem small_abcd (c : UInt8) : small c = abcd.contains c := by
  by_cases h1 : c = 97
  · subst h1; rfl
  by_cases h2 : c = 98
  · subst h2; rfl
  by_cases h3 : c = 99
  · subst h3; rfl
  by_cases h4 : c = 100
  · subst h4; rfl
  have e : abcd.contains c = false := by
    simp [abcd, h1, h2, h3, h4]
  rw [e]
  have k : ∀ n : UInt8, c ≠ n → c.toNat ≠ n.toNat := fun n h e => h (UInt8.toNat_inj.1 e)
  have a1 := k 97 h1
  have a2 := k 98 h2
  have a3 := k 99 h3
  have a4 := k 100 h4
  simp only [show (97 : UInt8).toNat = 97 from rfl, show (98 : UInt8).toNat = 98 from rfl, show (99 : UInt8).toNat = 99 from rfl, show (100 : UInt8).toNat = 100 from rfl] at a1 a2 a3 a4
  by_cases h5 : 97 ≤ c.toNat
  · have : ¬ c.toNat ≤ 100 := by omega
    simp [small, this]
  · simp [small, h5]
theorem trim_abcd (s : List UInt8) : (trimE s abcd = []) ↔ s.all small = true := by
  have e : (small : UInt8 → Bool) = abcd.contains := funext small_abcd
  rw [e]
  exact trim_nil s abcd
/-! a drawn text, no grammar at hand -/
/-! the other walk -/
def prog {α : Type} (f : α → α) (l : List α) (i : Nat) : List α := (l.take i).map f ++ l.drop i
section
variable {α : Type} {f : α → α} {l : List α}
theorem prog_len (i : Nat) : (prog f l i).length = l.length := by
  unfold prog
  rw [List.length_append, List.length_map, List.length_take, List.length_drop]; omega
theorem prog_zero : prog f l 0 = l := by simp [prog]
theorem prog_end : prog f l l.length = l.map f := by simp [prog]
theorem prog_get {i : Nat} (d : α) (h : i < l.length) : (prog f l i).getD i d = l.getD i d := by
  unfold prog
  rw [List.getD_eq_getElem?_getD, List.getElem?_append_right (by simp; omega), List.length_map, List.length_take, Nat.min_eq_left (by omega), Nat.sub_self, List.getElem?_drop, Nat.add_zero, List.getD_eq_getElem?_getD]
theorem prog_set {i : Nat} (d : α) (h : i < l.length) : (prog f l i).set i (f (l.getD i d)) = prog f l (i + 1) := by
  have e : l.take (i + 1) = l.take i ++ [l.getD i d] := by
    rw [List.take_add_one, List.getD_eq_getElem?_getD, List.getElem?_eq_getElem h]; rfl
  unfold prog
  rw [List.set_append_right _ _ (by simp; omega), List.length_map, List.length_take, Nat.min_eq_left (by omega), Nat.sub_self, drop_cons l i d h, List.set_cons_zero, e, List.map_append, List.append_assoc]
  rfl
theorem prog_keep {i : Nat} (d : α) (h : i < l.length) (hf : f (l.getD i d) = l.getD i d) : prog f l (i + 1) = prog f l i := by
  rw [← prog_set d h, hf]
  apply List.ext_getElem
  · rw [List.length_set]
  · intro j h1 h2
    rw [List.getElem_set]
    split
    · rename_i e
      subst e
      have := prog_get (f := f) d h
      rw [List.getD_eq_getElem?_getD, List.getElem?_eq_getElem h2] at this
      exact this.symm
    · rfl
end
def fillN (n : Nat) (x : Int) : Int := if x < 0 then (n : Int) else x
def fillR (n : Nat) (r : List Int) : List Int := r.map (fillN n)
def missR (r : List Int) : Bool := r.any fun x => decide (x < 0)
def missA (a : AutoT) : Bool := a.2.2.any missR
def baseN (a : AutoT) : List Bool × List (List Int) := if missA a = true then (a.2.1 ++ [false], a.2.2.map (fillR a.2.1.length) ++ [List.replicate 4 (a.2.1.length : Int)]) else (a.2.1, a.2.2.map (fillR a.2.1.length))
def outN (a : AutoT) : AutoT := (a.1, (baseN a).1.map (fun b => !b), (baseN a).2)
def notA (a : AutoT) : AutoT × Bool := if autoOk a then wrapB (outN a) else ((0, [], []), false)
theorem outN_mid {a : AutoT} (ha : OkA a) : Mid (outN a) := by
  have hn := ha.n
  have hl := ha.l
  have key : (baseN a).1.length ≤ 2000000 ∧ (baseN a).2.length ≤ 2000000 ∧ ∀ r ∈ (baseN a).2, r.length ≤ 2000000 := by
    have hr : ∀ r ∈ a.2.2.map (fillR a.2.1.length), r.length ≤ 2000000 := fun r hr => by
      obtain ⟨q, hq, rfl⟩ := List.mem_map.1 hr
      have := ha.r4 q hq
      unfold fillR; rw [List.length_map]; omega
    unfold baseN
    split
    · refine ⟨by rw [List.length_append]; show _ + 1 ≤ _; omega, by rw [List.length_append, List.length_map]; show _ + 1 ≤ _; omega, fun r hm => ?_⟩
      rcases List.mem_append.1 hm with h | h
      · exact hr r h
      · rw [List.mem_singleton.1 h]; simp
    · exact ⟨by show a.2.1.length ≤ _; omega, by rw [List.length_map]; omega, hr⟩
  exact ⟨by show ((baseN a).1.map _).length ≤ _; rw [List.length_map]; exact key.1, key.2.1, key.2.2⟩
theorem implFlip_ev (z o : AutoT) (hz : Mid (o.1, o.2.1.map (fun b => !b), o.2.2)) (hl : o.2.1.length ≤ 2000000) : EvP (fun k => impl_AutoNot_L255 k z o) (fun r => r = wrapB (o.1, o.2.1.map (fun b => !b), o.2.2)) := by
  have loop : ∀ (q i : Nat), i + q = o.2.1.length → EvP (fun k => impl_AutoNot_L2042 k z (o.1, prog (fun b => !b) o.2.1 i, o.2.2) (o.2.1.length : Int) (i : Int)) (fun r => r = wrapB (o.1, o.2.1.map (fun b => !b), o.2.2)) := by
    intro q
    induction q with
    | zero =>
      intro i hi
      obtain rfl : i = o.2.1.length := by omega
      rw [prog_end]
      refine EvP.fn (fun k => impl_AutoNot_L2042_eq k _ _ _ _) (EvP.decN (by omega) (EvP.bind (implAutoOk_ev (o.1, o.2.1.map (fun b => !b), o.2.2) hz) fun b hb => EvP.ite (fun h => EvP.now ?_) (fun h => EvP.now ?_)))
      · unfold wrapB
        rw [← hb, if_neg (by simpa using h)]
      · unfold wrapB
        rw [← hb, if_pos (by simpa using h)]
    | succ q ih =>
      intro i hi
      have hp := prog_len (f := fun b : Bool => !b) (l := o.2.1) i
      have y : (i : Int) < ((prog (fun b => !b) o.2.1 i).length : Int) := by rw [hp]; omega
      refine EvP.fn (fun k => impl_AutoNot_L2042_eq k _ _ _ _) (EvP.decY (by omega) (EvP.yes (by omega) (EvP.yes y (EvP.yes (by omega) (EvP.yes y ?_)))))
      rw [Int.toNat_natCast, w64 (by omega) (by omega)]
      have e := prog_get (f := fun b : Bool => !b) (l := o.2.1) false (i := i) (by omega)
      have e2 := prog_set (f := fun b : Bool => !b) (l := o.2.1) false (i := i) (by omega)
      have ih := ih (i + 1) (by omega)
      rw [← e2] at ih
      dsimp only
      rw [e]
      cases hv : o.2.1.getD i false <;> rw [hv] at ih <;> exact ih
  refine EvP.fn (fun k => impl_AutoNot_L255_eq k _ _) ?_
  have := loop o.2.1.length 0 (Nat.zero_add _)
  rw [prog_zero] at this
  exact this
theorem clone_ev (r : List Int) (h0 : 0 < r.length) (h1 : r.length ≤ 2000000) : EvP (fun k => slices_Clone_Sint_int k r) (fun x => x = r) :=
  EvP.fn (fun k => slices_Clone_Sint_int_eq k _) (EvP.yes h0 (EvP.yes (mE (by omega)) (EvP.now rfl)))
theorem cloneB_ev (r : List Bool) (h0 : 0 < r.length) (h1 : r.length ≤ 2000000) : EvP (fun k => slices_Clone_Sbool_bool k r) (fun x => x = r) :=
  EvP.fn (fun k => slices_Clone_Sbool_bool_eq k _) (EvP.yes h0 (EvP.yes (mE (by omega)) (EvP.now rfl)))
theorem repeat_ev (v : Int) (n : Nat) (h1 : 1 ≤ n) (h2 : n ≤ 100000) : EvP (fun k => slices_Repeat_Sint_int k [v] (n : Int)) (fun r => r = List.replicate n v) :=
  EvP.fn (fun k => slices_Repeat_Sint_int_eq k _ _) (EvP.yes ⟨rfl, by omega, by omega⟩ (EvP.now (by rw [Int.toNat_natCast]; rfl)))
theorem implNotRow_ev (z o : AutoT) (n : Nat) (m : Bool) (rows : List (List Int)) (len idx : Int) (row : List Int) (hr : row.length ≤ 2000000) {P : AutoT × Bool → Prop}
    (nx : EvP (fun k => impl_AutoNot_L518554 k z o (n : Int) (m || missR row) (fillR n row) rows len idx (row.length : Int) (row.length : Int)) P) :
    ∀ (q i : Nat), i + q = row.length → EvP (fun k => impl_AutoNot_L518554 k z o (n : Int) (m || missR (row.take i)) (prog (fillN n) row i) rows len idx (row.length : Int) (i : Int)) P
  | 0, i, hi => by
    obtain rfl : i = row.length := by omega
    rw [prog_end, List.take_length]; exact nx
  | q + 1, i, hi => by
    have hp := prog_len (f := fillN n) (l := row) i
    have e := prog_get (f := fillN n) (l := row) 0 (i := i) (by omega)
    have et : row.take (i + 1) = row.take i ++ [row.getD i 0] := by
      rw [List.take_add_one, List.getD_eq_getElem?_getD, List.getElem?_eq_getElem (show i < row.length by omega)]; rfl
    have ih := implNotRow_ev z o n m rows len idx row hr nx q (i + 1) (by omega)
    rw [et] at ih
    unfold missR at ih ⊢
    rw [List.any_append] at ih
    refine EvP.fn (fun k => impl_AutoNot_L518554_eq k _ _ _ _ _ _ _ _ _ _) (EvP.decY (by omega) (EvP.yes (by omega) (EvP.yes (by omega) ?_)))
    rw [Int.toNat_natCast, e, w64 (by omega) (by omega)]
    refine EvP.dec (fun h => EvP.yes (by omega) (EvP.yes (by omega) ?_)) (fun h => ?_)
    · have e3 : (n : Int) = fillN n (row.getD i 0) := by unfold fillN; rw [if_pos h]
      have e4 : [row.getD i 0].any (fun x => decide (x < 0)) = true := by simp only [List.any_cons, List.any_nil, decide_eq_true h, Bool.or_false]
      rw [e4, Bool.or_true, Bool.or_true] at ih
      have e5 := prog_set (f := fillN n) (l := row) 0 (i := i) (by omega)
      rw [← e3] at e5
      rw [e5]
      exact ih
    · have e3 : fillN n (row.getD i 0) = row.getD i 0 := by unfold fillN; rw [if_neg h]
      have e4 : [row.getD i 0].any (fun x => decide (x < 0)) = false := by simp only [List.any_cons, List.any_nil, decide_eq_false h, Bool.or_false]
      rw [e4, Bool.or_false, prog_keep 0 (by omega) e3] at ih
      exact ih
theorem implNot_ev (a : AutoT) (hm : Mid a) : EvP (fun k => impl_AutoNot k a.1 a.2.1 a.2.2) (fun r => r = notA a) := by
  refine EvP.fn (fun k => impl_AutoNot_eq k _ _ _) (EvP.bind (implAutoOk_ev a hm) fun b hb => ?_)
  subst hb
  cases hok : autoOk a with
  | false => exact EvP.yes rfl (EvP.now (by unfold notA; rw [hok]; rfl))
  | true =>
    have ha := okA hok
    have hn := ha.n
    have hl := ha.l
    have hn0 : 0 < a.2.1.length := by have := ha.b0; have := ha.b1; omega
    refine EvP.no (by simp) (EvP.bind (cloneB_ev _ hn0 (by omega)) fun es he => ?_)
    subst he
    have hw : notA a = wrapB (outN a) := by unfold notA; rw [if_pos hok]
    rw [hw]
    have loop : ∀ (q i : Nat), i + q = a.2.2.length → EvP (fun k => impl_AutoNot_L506 k ((0 : Int), [], []) (a.1, a.2.1, (a.2.2.take i).map (fillR a.2.1.length)) (a.2.1.length : Int) ((a.2.2.take i).any missR) a.2.2 (a.2.2.length : Int) (i : Int)) (fun r => r = wrapB (outN a)) := by
      intro q
      induction q with
      | zero =>
        intro i hi
        obtain rfl : i = a.2.2.length := by omega
        rw [List.take_length]
        refine EvP.fn (fun k => impl_AutoNot_L506_eq k _ _ _ _ _ _ _) (EvP.decN (by omega) ?_)
        have hmid := outN_mid ha
        unfold outN baseN missA at hmid ⊢
        refine EvP.ite (fun h => EvP.yes (mE (by show a.2.1.length + 1 ≤ _; omega)) (EvP.bind (repeat_ev _ 4 (by omega) (by omega)) fun x hx => EvP.yes (mE (by rw [List.length_map]; show _ + 1 ≤ _; omega)) ?_)) (fun h => ?_)
        · subst hx
          rw [if_pos h] at hmid ⊢
          exact implFlip_ev _ (a.1, a.2.1 ++ [false], a.2.2.map (fillR a.2.1.length) ++ [List.replicate 4 (a.2.1.length : Int)]) hmid (by show (a.2.1 ++ [false]).length ≤ _; rw [List.length_append]; show _ + 1 ≤ _; omega)
        · rw [if_neg h] at hmid ⊢
          exact implFlip_ev _ (a.1, a.2.1, a.2.2.map (fillR a.2.1.length)) hmid (by show a.2.1.length ≤ _; omega)
      | succ q ih =>
        intro i hi
        have hrow := ha.r4 _ (getD_mem a.2.2 i [] (by omega))
        have et : a.2.2.take (i + 1) = a.2.2.take i ++ [a.2.2.getD i []] := by
          rw [List.take_add_one, List.getD_eq_getElem?_getD, List.getElem?_eq_getElem (show i < a.2.2.length by omega)]; rfl
        refine EvP.fn (fun k => impl_AutoNot_L506_eq k _ _ _ _ _ _ _) (EvP.decY (by omega) (EvP.yes (by omega) (EvP.yes (by omega) ?_)))
        rw [Int.toNat_natCast]
        refine EvP.bind (clone_ev _ (by omega) (by omega)) fun x hx => ?_
        subst hx
        have := implNotRow_ev ((0 : Int), [], []) (a.1, a.2.1, (a.2.2.take i).map (fillR a.2.1.length)) a.2.1.length ((a.2.2.take i).any missR) a.2.2 (a.2.2.length : Int) (i : Int) (a.2.2.getD i []) (by omega) (P := fun r => r = wrapB (outN a)) ?_ (a.2.2.getD i []).length 0 (Nat.zero_add _)
        · rw [prog_zero] at this
          have e : ((a.2.2.take i).any missR || missR ((a.2.2.getD i []).take 0)) = (a.2.2.take i).any missR := by
            rw [List.take_zero]; exact Bool.or_false _
          rw [e] at this
          exact this
        · refine EvP.fn (fun k => impl_AutoNot_L518554_eq k _ _ _ _ _ _ _ _ _ _) (EvP.decN (by omega) (EvP.yes (mE (by rw [List.length_map, List.length_take]; show _ + 1 ≤ _; omega)) ?_))
          rw [w64 (by omega) (by omega)]
          have h := ih (i + 1) (by omega)
          rw [et, List.map_append, List.any_append] at h
          have e : [a.2.2.getD i []].any missR = missR (a.2.2.getD i []) := by simp
          rw [e] at h
          exact h
    exact loop a.2.2.length 0 (Nat.zero_add _)
/-! the other walk: spec -/
theorem specFlip_ev (z o : AutoT) (hl : o.2.1.length ≤ 2000000) : EvP (fun k => spec_AutoNot_L31 k z o) (fun r => r = wrapB (o.1, o.2.1.map (fun b => !b), o.2.2)) := by
  have loop : ∀ (q i : Nat), i + q = o.2.1.length → EvP (fun k => spec_AutoNot_L250 k z (o.1, prog (fun b => !b) o.2.1 i, o.2.2) (i : Int)) (fun r => r = wrapB (o.1, o.2.1.map (fun b => !b), o.2.2)) := by
    intro q
    induction q with
    | zero =>
      intro i hi
      obtain rfl : i = o.2.1.length := by omega
      have hp := prog_len (f := fun b : Bool => !b) (l := o.2.1) o.2.1.length
      refine EvP.fn (fun k => spec_AutoNot_L250_eq k _ _ _) (EvP.decN (by dsimp only; rw [hp]; omega) ?_)
      rw [prog_end]
      refine EvP.bind (specAutoOk_ev (o.1, o.2.1.map (fun b => !b), o.2.2)) fun b hb => EvP.ite (fun h => EvP.now ?_) (fun h => EvP.now ?_)
      · unfold wrapB
        rw [← hb, if_neg (by simpa using h)]
      · unfold wrapB
        rw [← hb, if_pos (by simpa using h)]
    | succ q ih =>
      intro i hi
      have hp := prog_len (f := fun b : Bool => !b) (l := o.2.1) i
      have y : (i : Int) < ((prog (fun b => !b) o.2.1 i).length : Int) := by rw [hp]; omega
      refine EvP.fn (fun k => spec_AutoNot_L250_eq k _ _ _) (EvP.decY y (EvP.yes (by omega) (EvP.yes y (EvP.yes (by omega) (EvP.yes y ?_)))))
      rw [Int.toNat_natCast, w64 (by omega) (by omega)]
      have e := prog_get (f := fun b : Bool => !b) (l := o.2.1) false (i := i) (by omega)
      have e2 := prog_set (f := fun b : Bool => !b) (l := o.2.1) false (i := i) (by omega)
      have ih := ih (i + 1) (by omega)
      rw [← e2] at ih
      dsimp only
      rw [e]
      cases hv : o.2.1.getD i false <;> rw [hv] at ih <;> exact ih
  refine EvP.fn (fun k => spec_AutoNot_L31_eq k _ _) ?_
  have := loop o.2.1.length 0 (Nat.zero_add _)
  rw [prog_zero] at this
  exact this
theorem whole_ev (a : AutoT) (hl : a.2.2.length ≤ 2000000) (h4 : ∀ r ∈ a.2.2, r.length = 4) : EvP (fun k => spec_l13Whole k a.1 a.2.1 a.2.2) (fun r => r = !missA a) := by
  have loop : ∀ (q i : Nat), i + q = a.2.2.length → EvP (fun k => spec_l13Whole_L26 k a (i : Int)) (fun r => r = !(a.2.2.drop i).any missR) := by
    intro q
    induction q with
    | zero =>
      intro i hi
      refine EvP.fn (fun k => spec_l13Whole_L26_eq k _ _) (EvP.decN (by omega) (EvP.now ?_))
      rw [List.drop_eq_nil_of_le (by omega)]; rfl
    | succ q ih =>
      intro i hi
      have hrow := h4 _ (getD_mem a.2.2 i [] (by omega))
      have cells : ∀ (m j : Nat), j + m = 4 → EvP (fun k => spec_l13Whole_L1682 k a (i : Int) (j : Int)) (fun r => r = !(missR ((a.2.2.getD i []).drop j) || (a.2.2.drop (i + 1)).any missR)) := by
        intro m
        induction m with
        | zero =>
          intro j hj
          refine EvP.fn (fun k => spec_l13Whole_L1682_eq k _ _ _) (EvP.decN (by omega) ?_)
          rw [w64 (by omega) (by omega)]
          refine (ih (i + 1) (by omega)).mono fun r hr => ?_
          have e : (a.2.2.getD i []).drop j = [] := List.drop_eq_nil_of_le (by omega)
          rw [hr, e]; rfl
        | succ m ihm =>
          intro j hj
          refine EvP.fn (fun k => spec_l13Whole_L1682_eq k _ _ _) (EvP.decY (by omega) (EvP.yes (by omega) (EvP.yes (by omega) ?_)))
          rw [Int.toNat_natCast, Int.toNat_natCast, w64 (by omega) (by omega), drop_cons (a.2.2.getD i []) j 0 (by omega)]
          refine EvP.yes (by omega) (EvP.yes (by omega) (EvP.dec (fun h => EvP.now ?_) (fun h => (ihm (j + 1) (by omega)).mono fun r hr => ?_)))
          · unfold missR; rw [List.any_cons, decide_eq_true h]; rfl
          · rw [hr]; unfold missR; rw [List.any_cons, decide_eq_false h, Bool.false_or]
      refine EvP.fn (fun k => spec_l13Whole_L26_eq k _ _) (EvP.decY (by omega) ((cells 4 0 rfl).mono fun r hr => ?_))
      rw [hr, drop_cons a.2.2 i [] (by omega), List.any_cons, List.drop_zero]
  exact EvP.fn (fun k => spec_l13Whole_eq k _ _ _) ((loop a.2.2.length 0 (Nat.zero_add _)).mono fun r hr => by rw [hr]; rfl)
theorem fill_ev (a : AutoT) (ha : Sml a) (ok : OkA a) : EvP (fun k => spec_l13Fill k a.1 a.2.1 a.2.2) (fun r => r = (a.1, a.2.1 ++ [false], a.2.2.map (fillR a.2.1.length) ++ [List.replicate 4 (a.2.1.length : Int)])) := by
  have hn := ok.n
  have hl := ok.l
  have e4 : [(a.2.1.length : Int), (a.2.1.length : Int), (a.2.1.length : Int), (a.2.1.length : Int)] = List.replicate 4 (a.2.1.length : Int) := rfl
  have rows : ∀ (G : List (List Int)), G = a.2.2 ++ [List.replicate 4 (a.2.1.length : Int)] → ∀ (q i : Nat), i + q = a.2.1.length → EvP (fun k => spec_l13Fill_L506 k ((0 : Int), [], []) (a.1, a.2.1 ++ [false], prog (fillR a.2.1.length) G i) (a.2.1.length : Int) (i : Int)) (fun r => r = (a.1, a.2.1 ++ [false], a.2.2.map (fillR a.2.1.length) ++ [List.replicate 4 (a.2.1.length : Int)])) := by
    intro G hG q
    have hGl : G.length = a.2.1.length + 1 := by rw [hG, List.length_append]; show _ + 1 = _; omega
    induction q with
    | zero =>
      intro i hi
      obtain rfl : i = a.2.1.length := by omega
      refine EvP.fn (fun k => spec_l13Fill_L506_eq k _ _ _ _) (EvP.decN (by omega) (EvP.now ?_))
      have : prog (fillR a.2.1.length) G a.2.1.length = a.2.2.map (fillR a.2.1.length) ++ [List.replicate 4 (a.2.1.length : Int)] := by
        unfold prog
        rw [hG, List.take_left' (by omega), List.drop_left' (by omega)]
      rw [this]
    | succ q ih =>
      intro i hi
      have hg : G.getD i [] = a.2.2.getD i [] := by rw [hG]; exact getD_pre _ _ _ _ (by omega)
      have hrow := ok.r4 _ (getD_mem a.2.2 i [] (by omega))
      have hpl := prog_len (f := fillR a.2.1.length) (l := G) i
      have cells : ∀ (m j : Nat), j + m = 4 → EvP (fun k => spec_l13Fill_L32402 k ((0 : Int), [], []) (a.1, a.2.1 ++ [false], (prog (fillR a.2.1.length) G i).set i (prog (fillN a.2.1.length) (a.2.2.getD i []) j)) (a.2.1.length : Int) (i : Int) (j : Int)) (fun r => r = (a.1, a.2.1 ++ [false], a.2.2.map (fillR a.2.1.length) ++ [List.replicate 4 (a.2.1.length : Int)])) := by
        intro m
        induction m with
        | zero =>
          intro j hj
          obtain rfl : j = 4 := by omega
          refine EvP.fn (fun k => spec_l13Fill_L32402_eq k _ _ _ _ _) (EvP.decN (by omega) ?_)
          have e := prog_end (f := fillN a.2.1.length) (l := a.2.2.getD i [])
          rw [hrow] at e
          have e2 := prog_set (f := fillR a.2.1.length) (l := G) [] (i := i) (by omega)
          rw [hg] at e2
          rw [e, w64 (by omega) (by omega)]
          show EvP (fun k => spec_l13Fill_L506 k ((0 : Int), [], []) (a.1, a.2.1 ++ [false], (prog (fillR a.2.1.length) G i).set i (fillR a.2.1.length (a.2.2.getD i []))) (a.2.1.length : Int) (((i + 1 : Nat)) : Int)) _
          rw [e2]
          exact ih (i + 1) (by omega)
        | succ m ihm =>
          intro j hj
          have hpr := prog_len (f := fillN a.2.1.length) (l := a.2.2.getD i []) j
          have y : (i : Int) < (((prog (fillR a.2.1.length) G i).set i (prog (fillN a.2.1.length) (a.2.2.getD i []) j)).length : Int) := by rw [List.length_set, hpl]; omega
          have eg : ((prog (fillR a.2.1.length) G i).set i (prog (fillN a.2.1.length) (a.2.2.getD i []) j)).getD i [] = prog (fillN a.2.1.length) (a.2.2.getD i []) j := by
            rw [List.getD_eq_getElem?_getD, List.getElem?_set_self (by omega)]; rfl
          refine EvP.fn (fun k => spec_l13Fill_L32402_eq k _ _ _ _ _) (EvP.decY (by omega) (EvP.yes (by omega) (EvP.yes y ?_)))
          rw [Int.toNat_natCast, Int.toNat_natCast, w64 (by omega) (by omega)]
          dsimp only
          rw [eg, List.set_set, prog_get 0 (by omega)]
          have y2 : (j : Int) < ((prog (fillN a.2.1.length) (a.2.2.getD i []) j).length : Int) := by rw [hpr]; omega
          have ihm := ihm (j + 1) (by omega)
          refine EvP.yes (by omega) (EvP.yes y2 (EvP.dec (fun h => EvP.yes (by omega) (EvP.yes y (EvP.yes (by omega) (EvP.yes y2 ?_)))) (fun h => ?_)))
          · have e3 : (a.2.1.length : Int) = fillN a.2.1.length ((a.2.2.getD i []).getD j 0) := by unfold fillN; rw [if_pos h]
            have e5 := prog_set (f := fillN a.2.1.length) (l := a.2.2.getD i []) 0 (i := j) (by omega)
            rw [← e3] at e5
            rw [e5]; exact ihm
          · have e3 : fillN a.2.1.length ((a.2.2.getD i []).getD j 0) = (a.2.2.getD i []).getD j 0 := by unfold fillN; rw [if_neg h]
            rw [prog_keep 0 (by omega) e3] at ihm
            exact ihm
      have := cells 4 0 rfl
      rw [prog_zero] at this
      have e0 : (prog (fillR a.2.1.length) G i).set i (a.2.2.getD i []) = prog (fillR a.2.1.length) G i := by
        rw [← hg, ← prog_get (f := fillR a.2.1.length) (l := G) [] (i := i) (by omega)]
        apply List.ext_getElem
        · rw [List.length_set]
        · intro j h1 h2
          rw [List.getElem_set]
          split
          · rename_i e; subst e
            rw [List.getD_eq_getElem?_getD, List.getElem?_eq_getElem h2]; rfl
          · rfl
      rw [e0] at this
      exact EvP.fn (fun k => spec_l13Fill_L506_eq k _ _ _ _) (EvP.decY (by omega) this)
  refine EvP.fn (fun k => spec_l13Fill_eq k _ _ _) (EvP.bind (copy_ev a ha) fun x hx => ?_)
  subst hx
  refine EvP.yes (mE (by show x.2.1.length + 1 ≤ _; omega)) (EvP.yes (mE (by show x.2.2.length + 1 ≤ _; omega)) ?_)
  rw [e4]
  have := rows _ rfl x.2.1.length 0 (Nat.zero_add _)
  rw [prog_zero] at this
  exact this
theorem fill_none {n : Nat} {gs : List (List Int)} (h : gs.any missR = false) : gs.map (fillR n) = gs := by
  conv => rhs; rw [← List.map_id gs]
  refine List.map_congr_left fun r hr => ?_
  have h1 : missR r = false := by
    cases hm : missR r with
    | false => rfl
    | true => rw [List.any_eq_true.2 ⟨r, hr, hm⟩] at h; cases h
  show r.map (fillN n) = r
  conv => rhs; rw [← List.map_id r]
  refine List.map_congr_left fun x hx => ?_
  unfold fillN
  have h2 : ¬ x < 0 := fun hlt => by
    have : missR r = true := List.any_eq_true.2 ⟨x, hx, decide_eq_true hlt⟩
    rw [this] at h1; cases h1
  rw [if_neg h2]; rfl
theorem specNot_ev (a : AutoT) (ha : Sml a) : EvP (fun k => spec_AutoNot k a.1 a.2.1 a.2.2) (fun r => r = notA a) := by
  refine EvP.fn (fun k => spec_AutoNot_eq k _ _ _) (EvP.bind (specAutoOk_ev a) fun b hb => ?_)
  subst hb
  cases hok : autoOk a with
  | false => exact EvP.yes rfl (EvP.now (by unfold notA; rw [hok]; rfl))
  | true =>
    have ok := okA hok
    have hn := ok.n
    have hl := ok.l
    have hw : notA a = wrapB (outN a) := by unfold notA; rw [if_pos hok]
    rw [hw]
    refine EvP.no (by simp) (EvP.bind (copy_ev a ha) fun x hx => EvP.bind (whole_ev a (by omega) ok.r4) fun w hw' => ?_)
    subst hx hw'
    unfold outN baseN
    refine EvP.ite (fun h => EvP.bind (fill_ev x ha ok) fun y hy => ?_) (fun h => ?_)
    · have h : missA x = true := by simpa using h
      subst hy
      rw [if_pos h]
      exact specFlip_ev _ (x.1, x.2.1 ++ [false], x.2.2.map (fillR x.2.1.length) ++ [List.replicate 4 (x.2.1.length : Int)]) (by show (x.2.1 ++ [false]).length ≤ _; rw [List.length_append]; show _ + 1 ≤ _; omega)
    · have h : missA x = false := by simpa using h
      rw [if_neg (by simp [h]), fill_none h]
      exact specFlip_ev _ x (by omega)
/-! what the other walk lets by -/
structure Whole (a : AutoT) : Prop where
  ge : ∀ r ∈ a.2.2, ∀ x ∈ r, 0 ≤ x
theorem fillN_ge (n : Nat) (x : Int) : 0 ≤ fillN n x := by unfold fillN; split <;> omega
theorem outN_whole (a : AutoT) : Whole (outN a) := by
  have hr : ∀ r ∈ a.2.2.map (fillR a.2.1.length), ∀ x ∈ r, 0 ≤ x := fun r hr x hx => by
    obtain ⟨q, hq, rfl⟩ := List.mem_map.1 hr
    obtain ⟨y, _, rfl⟩ := List.mem_map.1 hx
    exact fillN_ge _ _
  refine ⟨?_⟩
  unfold outN baseN
  split
  · intro r hm x hx
    rcases List.mem_append.1 hm with h | h
    · exact hr r h x hx
    · rw [List.mem_singleton.1 h] at hx
      rw [List.eq_of_mem_replicate hx]; omega
  · exact hr
theorem Whole.miss {a : AutoT} (h : Whole a) : missA a = false := by
  cases hm : missA a with
  | false => rfl
  | true =>
    obtain ⟨r, hr, h1⟩ := List.any_eq_true.1 hm
    obtain ⟨x, hx, h2⟩ := List.any_eq_true.1 h1
    have := h.ge r hr x hx
    have := of_decide_eq_true h2
    omega
theorem goR_out {a : AutoT} (ha : OkA a) {p : Int} (h0 : 0 ≤ p) (h1 : p < a.2.1.length) {k : Nat} (hk : k < 4) : goR (outN a) p k = fillN a.2.1.length (goR a p k) := by
  have hl := ha.l
  have hg := (ha.go h0 h1 hk).2.2
  have e : (outN a).2.2.getD p.toNat [] = fillR a.2.1.length (a.2.2.getD p.toNat []) := by
    have key : (a.2.2.map (fillR a.2.1.length)).getD p.toNat [] = fillR a.2.1.length (a.2.2.getD p.toNat []) := by
      rw [List.getD_eq_getElem?_getD, List.getElem?_map, List.getElem?_eq_getElem (show p.toNat < a.2.2.length by omega), List.getD_eq_getElem?_getD, List.getElem?_eq_getElem (show p.toNat < a.2.2.length by omega)]; rfl
    unfold outN baseN
    split
    · show List.getD (a.2.2.map (fillR a.2.1.length) ++ [List.replicate 4 (a.2.1.length : Int)]) p.toNat [] = _
      rw [getD_pre _ _ _ _ (by rw [List.length_map]; omega)]; exact key
    · exact key
  have key2 : ∀ l : List Int, k < l.length → (l.map (fillN a.2.1.length)).getD k 0 = fillN a.2.1.length (l.getD k 0) := fun l hl => by
    rw [List.getD_eq_getElem?_getD, List.getElem?_map, List.getElem?_eq_getElem hl, List.getD_eq_getElem?_getD, List.getElem?_eq_getElem hl]; rfl
  unfold goR
  rw [e]
  exact key2 _ (by omega)
theorem endR_out {a : AutoT} {p : Int} (h0 : 0 ≤ p) (h1 : p < a.2.1.length) : endR (outN a) p = !endR a p := by
  have key : ∀ l : List Bool, p.toNat < l.length → (l.map fun b => !b).getD p.toNat false = !l.getD p.toNat false := fun l hl => by
    rw [List.getD_eq_getElem?_getD, List.getElem?_map, List.getElem?_eq_getElem hl, List.getD_eq_getElem?_getD, List.getElem?_eq_getElem hl]; rfl
  unfold endR outN baseN
  split
  · show ((a.2.1 ++ [false]).map _).getD _ _ = _
    rw [key _ (by rw [List.length_append]; show _ < _ + 1; omega), getD_pre _ _ _ _ (by omega)]
  · exact key a.2.1 (by omega)
theorem sink_walk {a : AutoT} (ha : OkA a) (hm : missA a = true) : ∀ s : List UInt8, s.all small = true → walkA (outN a) (a.2.1.length : Int) s = true
  | [], _ => by
    show endR (outN a) (a.2.1.length : Int) = true
    unfold endR outN baseN
    rw [if_pos hm, Int.toNat_natCast]
    show ((a.2.1 ++ [false]).map _).getD _ _ = _
    rw [List.getD_eq_getElem?_getD, List.getElem?_map, List.getElem?_append_right (Nat.le_refl _), Nat.sub_self]; rfl
  | c :: s, hs => by
    rw [List.all_cons, Bool.and_eq_true] at hs
    have hk : c.toNat - 97 < 4 := by
      have := hs.1
      simp only [small, Bool.and_eq_true, decide_eq_true_eq] at this
      omega
    have hl := ha.l
    have eg : goR (outN a) (a.2.1.length : Int) (c.toNat - 97) = (a.2.1.length : Int) := by
      unfold goR outN baseN
      rw [if_pos hm, Int.toNat_natCast]
      have ei : (a.2.2.map (fillR a.2.1.length) ++ [List.replicate 4 (a.2.1.length : Int)]).getD a.2.1.length [] = List.replicate 4 (a.2.1.length : Int) := by
        rw [List.getD_eq_getElem?_getD, List.getElem?_append_right (by rw [List.length_map]; omega), List.length_map, hl, Nat.sub_self]; rfl
      show ((a.2.2.map (fillR a.2.1.length) ++ [List.replicate 4 (a.2.1.length : Int)]).getD a.2.1.length []).getD _ _ = _
      rw [ei]
      rw [List.getD_eq_getElem?_getD, List.getElem?_replicate, if_pos hk]; rfl
    show (if goR (outN a) (a.2.1.length : Int) (c.toNat - 97) < 0 then false else walkA (outN a) (goR (outN a) (a.2.1.length : Int) (c.toNat - 97)) s) = true
    rw [eg, if_neg (by omega)]
    exact sink_walk ha hm s hs.2
theorem not_walk {a : AutoT} (ha : OkA a) : ∀ (s : List UInt8) (p : Int), s.all small = true → 0 ≤ p → p < a.2.1.length → walkA (outN a) p s = !walkA a p s
  | [], p, _, h0, h1 => endR_out h0 h1
  | c :: s, p, hs, h0, h1 => by
    rw [List.all_cons, Bool.and_eq_true] at hs
    have hk : c.toNat - 97 < 4 := by
      have := hs.1
      simp only [small, Bool.and_eq_true, decide_eq_true_eq] at this
      omega
    have hg := ha.go h0 h1 hk
    show (if goR (outN a) p (c.toNat - 97) < 0 then false else walkA (outN a) (goR (outN a) p (c.toNat - 97)) s) = !(if goR a p (c.toNat - 97) < 0 then false else walkA a (goR a p (c.toNat - 97)) s)
    rw [goR_out ha h0 h1 hk, if_neg (by have := fillN_ge a.2.1.length (goR a p (c.toNat - 97)); omega)]
    by_cases hneg : goR a p (c.toNat - 97) < 0
    · rw [if_pos hneg]
      have hm : missA a = true := by
        have hl := ha.l
        refine List.any_eq_true.2 ⟨a.2.2.getD p.toNat [], getD_mem _ _ _ (by omega), List.any_eq_true.2 ⟨goR a p (c.toNat - 97), getD_mem _ _ _ (by omega), decide_eq_true hneg⟩⟩
      unfold fillN
      rw [if_pos hneg, sink_walk ha hm s hs.2]; rfl
    · rw [if_neg hneg]
      unfold fillN
      rw [if_neg hneg]
      exact not_walk ha s _ hs.2 (by omega) hg.2.1
theorem notA_ok {a : AutoT} (h : (notA a).2 = true) : autoOk a = true ∧ autoOk (outN a) = true ∧ notA a = (outN a, true) := by
  unfold notA at h ⊢
  split at h
  · rename_i hok
    rw [if_pos hok]
    unfold wrapB at h ⊢
    split at h
    · rename_i ho; rw [if_pos ho]; exact ⟨hok, ho, rfl⟩
    · cases h
  · cases h
theorem not_is {a : AutoT} (h : (notA a).2 = true) (s : List UInt8) (ht : textOk s = true) : isA (outN a) s = !isA a s := by
  obtain ⟨h1, h2, _⟩ := notA_ok h
  have hs := ht
  simp only [textOk, Bool.and_eq_true, decide_eq_true_eq] at hs
  unfold isA
  rw [h1, h2, ht, Bool.true_and, Bool.true_and, Bool.true_and, Bool.true_and]
  exact not_walk (okA h1) s a.1 hs.1 (okA h1).b0 (okA h1).b1
theorem whole_out {b : AutoT} (hm : missA b = false) : outN b = (b.1, b.2.1.map (fun x => !x), b.2.2) := by
  unfold outN baseN
  rw [if_neg (by simp [hm]), fill_none hm]
theorem not_not {a : AutoT} (h : (notA a).2 = true) : (notA (outN a)).2 = true := by
  obtain ⟨h1, h2, _⟩ := notA_ok h
  have ho := okA h2
  have hm := (outN_whole a).miss
  unfold notA
  rw [if_pos h2]
  rw [whole_out hm]
  unfold wrapB
  have : autoOk ((outN a).1, (outN a).2.1.map (fun b => !b), (outN a).2.2) = true := by
    unfold autoOk at h2 ⊢
    simp only [List.length_map] at h2 ⊢
    exact h2
  rw [if_pos this]
/-! what the exact laws do with automata: they are told, copied, compared, marked -/
theorem lenG_mem : ∀ {gs : List (List Int)} {r : List Int}, r ∈ gs → r.length ≤ lenG gs
  | x :: l, r, h => by
    simp only [lenG]
    rcases List.mem_cons.1 h with rfl | h
    · omega
    · have := lenG_mem h; omega
theorem lenG_le {c : Nat} : ∀ {gs : List (List Int)}, (∀ r ∈ gs, r.length ≤ c) → lenG gs ≤ gs.length * c
  | [], _ => by simp [lenG]
  | x :: l, h => by
    have h1 := h x (by simp)
    have h2 := lenG_le (gs := l) (fun r hr => h r (by simp [hr]))
    simp only [lenG, List.length_cons]
    rw [Nat.add_mul]; omega
/-- Held within the bound of the exact laws. -/
def Held (a : AutoT) : Prop := a.2.1.length + a.2.2.length + lenG a.2.2 ≤ 1048576
theorem Held.mid {a : AutoT} (h : Held a) : Mid a := ⟨by unfold Held at h; omega, by unfold Held at h; omega, fun r hr => by have := lenG_mem hr; unfold Held at h; omega⟩
theorem szI_ev (l : List Int) (hl : l.length ≤ maxLen) (m : Int) (h0 : 0 ≤ m) (h1 : m ≤ 1048576) : EvP (fun k => laws_szIntS k l m) (fun r => r < 0 ∨ (0 ≤ r ∧ r = m - l.length)) := by
  unfold maxLen at hl
  refine EvP.fn (fun k => laws_szIntS_eq k l m) ?_
  rw [w64 (by omega) (by omega)]
  exact EvP.dec (fun h => EvP.now (.inl (by decide))) (fun h => EvP.now (.inr ⟨by omega, rfl⟩))
theorem szB_ev (l : List Bool) (hl : l.length ≤ maxLen) (m : Int) (h0 : 0 ≤ m) (h1 : m ≤ 1048576) : EvP (fun k => laws_szBoolS k l m) (fun r => r < 0 ∨ (0 ≤ r ∧ r = m - l.length)) := by
  unfold maxLen at hl
  refine EvP.fn (fun k => laws_szBoolS_eq k l m) ?_
  rw [w64 (by omega) (by omega)]
  exact EvP.dec (fun h => EvP.now (.inl (by decide))) (fun h => EvP.now (.inr ⟨by omega, rfl⟩))
theorem szG_loop (gs : List (List Int)) (hl : gs.length ≤ 1048576) (hr : ∀ r ∈ gs, r.length ≤ maxLen) : ∀ (n i : Nat) (m : Int), i + n = gs.length → 0 ≤ m → m ≤ 1048576 → EvP (fun k => laws_szIntSS_L122 k gs m (i : Int)) (fun r => r < 0 ∨ (0 ≤ r ∧ r = m - lenG (gs.drop i)))
  | 0, i, m, h, h0, h1 => by
    refine EvP.fn (fun k => laws_szIntSS_L122_eq k _ _ _) (EvP.decN (by omega) (EvP.now (.inr ⟨h0, ?_⟩)))
    rw [List.drop_eq_nil_of_le (by omega)]; simp [lenG]
  | n + 1, i, m, h, h0, h1 => by
    refine EvP.fn (fun k => laws_szIntSS_L122_eq k _ _ _) (EvP.decY (by omega) (EvP.yes (by omega) (EvP.yes (by omega) ?_)))
    rw [Int.toNat_natCast]
    refine EvP.bind (szI_ev _ (hr _ (getD_mem gs i [] (by omega))) m h0 h1) fun x hx => EvP.dec (fun _ => EvP.now (.inl (by decide))) (fun hx0 => ?_)
    rcases hx with hx | ⟨hx, hx2⟩
    · exact absurd hx hx0
    · rw [w64 (by omega) (by omega)]
      refine (szG_loop gs hl hr n (i + 1) x (by omega) hx (by omega)).mono fun r hr => ?_
      rcases hr with hr | ⟨h2, h3⟩
      · exact .inl hr
      · refine .inr ⟨h2, ?_⟩
        rw [List.drop_eq_getElem_cons (by omega : i < gs.length), lenG, h3, hx2]
        have e : gs.getD i [] = gs[i] := by simp [List.getD, (by omega : i < gs.length)]
        rw [e]; omega
theorem szG_ev (gs : List (List Int)) (hl : gs.length ≤ maxLen) (hr : ∀ r ∈ gs, r.length ≤ maxLen) (m : Int) (h0 : 0 ≤ m) (h1 : m ≤ 1048576) : EvP (fun k => laws_szIntSS k gs m) (fun r => r < 0 ∨ (0 ≤ r ∧ r = m - gs.length - lenG gs)) := by
  have hl2 := hl
  unfold maxLen at hl2
  refine EvP.fn (fun k => laws_szIntSS_eq k gs m) ?_
  rw [w64 (by omega) (by omega)]
  refine EvP.dec (fun h => EvP.now (.inl (by decide))) (fun h => ?_)
  exact (szG_loop gs (by omega) hr gs.length 0 (m - gs.length) (by omega) (by omega) (by omega)).mono fun r hr => by simpa using hr
theorem sz_ev (a : AutoT) (h1 : a.2.1.length ≤ maxLen) (h2 : a.2.2.length ≤ maxLen) (h3 : ∀ r ∈ a.2.2, r.length ≤ maxLen) (m : Int) (m0 : 0 ≤ m) (m1 : m ≤ 1048576) : EvP (fun k => laws_szAuto k a.1 a.2.1 a.2.2 m) (fun r => r < 0 ∨ (0 ≤ r ∧ r ≤ m ∧ Held a)) := by
  refine EvP.fn (fun k => laws_szAuto_eq k _ _ _ _) (EvP.bind (szB_ev a.2.1 h1 m m0 m1) fun x hx => EvP.dec (fun _ => EvP.now (.inl (by decide))) (fun hx0 => ?_))
  rcases hx with hx | ⟨g1, g2⟩
  · exact absurd hx hx0
  refine EvP.bind (szG_ev a.2.2 h2 h3 x g1 (by omega)) fun y hy => EvP.dec (fun _ => EvP.now (.inl (by decide))) (fun hy0 => EvP.now ?_)
  rcases hy with hy | ⟨g3, g4⟩
  · exact absurd hy hy0
  · exact .inr ⟨g3, by omega, by unfold Held; omega⟩
/-- The first cells are those of a list. -/
def LikeL {α : Type} (d : α) (l x : List α) (i : Nat) : Prop := x.length = l.length ∧ ∀ j, j < i → x.getD j d = l.getD j d
theorem LikeL.set {α : Type} {d : α} {l x : List α} {i : Nat} (h : LikeL d l x i) (hi : i < l.length) : LikeL d l (x.set i (l.getD i d)) (i + 1) := by
  refine ⟨by simp [h.1], fun j hj => ?_⟩
  by_cases e : j = i
  · subst e; simp [List.getD, h.1, hi]
  · have := h.2 j (by omega)
    simp only [List.getD, List.getElem?_set_ne (Ne.symm e)] at this ⊢
    exact this
theorem LikeL.all {α : Type} {d : α} {l x : List α} (h : LikeL d l x l.length) : x = l := by
  refine List.ext_getElem h.1 fun j h1 h2 => ?_
  have := h.2 j h2
  simpa [List.getD, h1, h2] using this
theorem LikeL.start {α : Type} (d : α) (l : List α) : LikeL d l (List.replicate l.length d) 0 := ⟨by simp, fun j hj => absurd hj (Nat.not_lt_zero _)⟩
theorem toB_loop (l : List Bool) (hl : l.length ≤ 2000000) : ∀ (n i : Nat) (x : List Bool), i + n = l.length → LikeL false l x i → EvP (fun k => laws_toBoolS_L58 k l x (i : Int)) (fun r => r = l)
  | 0, i, x, h, hx => by
    obtain rfl : i = l.length := by omega
    exact EvP.fn (fun k => laws_toBoolS_L58_eq k _ _ _) (EvP.decN (by omega) (EvP.now hx.all))
  | n + 1, i, x, h, hx => by
    have hxl := hx.1
    refine EvP.fn (fun k => laws_toBoolS_L58_eq k _ _ _) (EvP.decY (by omega) (EvP.yes (by omega) (EvP.yes (by omega) (EvP.yes (by omega) (EvP.yes (by omega) ?_)))))
    rw [Int.toNat_natCast, w64 (by omega) (by omega)]
    exact toB_loop l hl n (i + 1) _ (by omega) (hx.set (by omega))
theorem toB_ev (l : List Bool) (hl : l.length ≤ 2000000) : EvP (fun k => laws_toBoolS k l) (fun r => r = l) := by
  refine EvP.fn (fun k => laws_toBoolS_eq k l) (EvP.yes rfl (EvP.yes (by omega) (EvP.yes (by unfold maxLenE; omega) ?_)))
  rw [Int.toNat_natCast]
  exact toB_loop l hl l.length 0 _ (by omega) (LikeL.start false l)
theorem toI_loop (l : List Int) (hl : l.length ≤ 2000000) : ∀ (n i : Nat) (x : List Int), i + n = l.length → LikeL 0 l x i → EvP (fun k => laws_toIntS_L58 k l x (i : Int)) (fun r => r = l)
  | 0, i, x, h, hx => by
    obtain rfl : i = l.length := by omega
    exact EvP.fn (fun k => laws_toIntS_L58_eq k _ _ _) (EvP.decN (by omega) (EvP.now hx.all))
  | n + 1, i, x, h, hx => by
    have hxl := hx.1
    refine EvP.fn (fun k => laws_toIntS_L58_eq k _ _ _) (EvP.decY (by omega) (EvP.yes (by omega) (EvP.yes (by omega) (EvP.yes (by omega) (EvP.yes (by omega) ?_)))))
    rw [Int.toNat_natCast, w64 (by omega) (by omega)]
    exact toI_loop l hl n (i + 1) _ (by omega) (hx.set (by omega))
theorem toI_ev (l : List Int) (hl : l.length ≤ 2000000) : EvP (fun k => laws_toIntS k l) (fun r => r = l) := by
  refine EvP.fn (fun k => laws_toIntS_eq k l) (EvP.yes rfl (EvP.yes (by omega) (EvP.yes (by unfold maxLenE; omega) ?_)))
  rw [Int.toNat_natCast]
  exact toI_loop l hl l.length 0 _ (by omega) (LikeL.start 0 l)
theorem toG_loop (l : List (List Int)) (hl : l.length ≤ 2000000) (hr : ∀ r ∈ l, r.length ≤ 2000000) : ∀ (n i : Nat) (x : List (List Int)), i + n = l.length → LikeL [] l x i → EvP (fun k => laws_toIntSS_L58 k l x (i : Int)) (fun r => r = l)
  | 0, i, x, h, hx => by
    obtain rfl : i = l.length := by omega
    exact EvP.fn (fun k => laws_toIntSS_L58_eq k _ _ _) (EvP.decN (by omega) (EvP.now hx.all))
  | n + 1, i, x, h, hx => by
    have hxl := hx.1
    refine EvP.fn (fun k => laws_toIntSS_L58_eq k _ _ _) (EvP.decY (by omega) (EvP.yes (by omega) (EvP.yes (by omega) ?_)))
    rw [Int.toNat_natCast]
    refine EvP.bind (toI_ev _ (hr _ (getD_mem l i [] (by omega)))) fun y hy => EvP.yes (by omega) (EvP.yes (by omega) ?_)
    rw [hy, w64 (by omega) (by omega)]
    exact toG_loop l hl hr n (i + 1) _ (by omega) (hx.set (by omega))
theorem toG_ev (l : List (List Int)) (hl : l.length ≤ 2000000) (hr : ∀ r ∈ l, r.length ≤ 2000000) : EvP (fun k => laws_toIntSS k l) (fun r => r = l) := by
  refine EvP.fn (fun k => laws_toIntSS_eq k l) (EvP.yes rfl (EvP.yes (by omega) (EvP.yes (by unfold maxLenE; omega) ?_)))
  rw [Int.toNat_natCast]
  exact toG_loop l hl hr l.length 0 _ (by omega) (LikeL.start [] l)
theorem toA_ev (a : AutoT) (h : Mid a) : EvP (fun k => laws_toAuto k a.1 a.2.1 a.2.2) (fun r => r = a) := by
  refine EvP.fn (fun k => laws_toAuto_eq k _ _ _) (EvP.bind (toB_ev a.2.1 h.1) fun x hx => EvP.bind (toG_ev a.2.2 h.2.1 h.2.2) fun y hy => EvP.now ?_)
  rw [hx, hy]
/-! the same -/
theorem eqB_loop (l : List Bool) (hl : l.length ≤ 2000000) : ∀ (n i : Nat), i + n = l.length → EvP (fun k => laws_eqBoolS_L58 k l l (i : Int)) (fun r => r = true)
  | 0, i, h => EvP.fn (fun k => laws_eqBoolS_L58_eq k _ _ _) (EvP.decN (by omega) (EvP.now rfl))
  | n + 1, i, h => by
    refine EvP.fn (fun k => laws_eqBoolS_L58_eq k _ _ _) (EvP.decY (by omega) (EvP.yes (by omega) (EvP.yes (by omega) (EvP.yes (by omega) (EvP.yes (by omega) (EvP.no (by simp) ?_))))))
    rw [w64 (by omega) (by omega)]
    exact eqB_loop l hl n (i + 1) (by omega)
theorem eqI_loop (l : List Int) (hl : l.length ≤ 2000000) : ∀ (n i : Nat), i + n = l.length → EvP (fun k => laws_eqIntS_L58 k l l (i : Int)) (fun r => r = true)
  | 0, i, h => EvP.fn (fun k => laws_eqIntS_L58_eq k _ _ _) (EvP.decN (by omega) (EvP.now rfl))
  | n + 1, i, h => by
    refine EvP.fn (fun k => laws_eqIntS_L58_eq k _ _ _) (EvP.decY (by omega) (EvP.yes (by omega) (EvP.yes (by omega) (EvP.yes (by omega) (EvP.yes (by omega) (EvP.no (by simp) ?_))))))
    rw [w64 (by omega) (by omega)]
    exact eqI_loop l hl n (i + 1) (by omega)
theorem eqG_loop (l : List (List Int)) (hl : l.length ≤ 2000000) (hr : ∀ r ∈ l, r.length ≤ 2000000) : ∀ (n i : Nat), i + n = l.length → EvP (fun k => laws_eqIntSS_L58 k l l (i : Int)) (fun r => r = true)
  | 0, i, h => EvP.fn (fun k => laws_eqIntSS_L58_eq k _ _ _) (EvP.decN (by omega) (EvP.now rfl))
  | n + 1, i, h => by
    refine EvP.fn (fun k => laws_eqIntSS_L58_eq k _ _ _) (EvP.decY (by omega) (EvP.yes (by omega) (EvP.yes (by omega) (EvP.yes (by omega) (EvP.yes (by omega) ?_)))))
    rw [Int.toNat_natCast]
    refine EvP.bind (P := fun r => r = true) (EvP.fn (fun k => laws_eqIntS_eq k _ _) (EvP.no (by simp) (eqI_loop _ (hr _ (getD_mem l i [] (by omega))) _ 0 (Nat.zero_add _)))) fun b hb => EvP.no (by simp [hb]) ?_
    rw [w64 (by omega) (by omega)]
    exact eqG_loop l hl hr n (i + 1) (by omega)
theorem eqA_ev (a : AutoT) (h : Mid a) : EvP (fun k => laws_eqAuto k a.1 a.2.1 a.2.2 a.1 a.2.1 a.2.2) (fun r => r = true) := by
  refine EvP.fn (fun k => laws_eqAuto_eq k _ _ _ _ _ _) (EvP.no (by simp) ?_)
  refine EvP.bind (P := fun r => r = true) (EvP.fn (fun k => laws_eqBoolS_eq k _ _) (EvP.no (by simp) (eqB_loop a.2.1 h.1 _ 0 (Nat.zero_add _)))) fun b hb => EvP.no (by simp [hb]) ?_
  refine EvP.bind (P := fun r => r = true) (EvP.fn (fun k => laws_eqIntSS_eq k _ _) (EvP.no (by simp) (eqG_loop a.2.2 h.2.1 h.2.2 _ 0 (Nat.zero_add _)))) fun b hb => EvP.no (by simp [hb]) (EvP.now rfl)
/-! what is marked is held -/
theorem markB_len : ∀ (xs : List Bool) (k : Int), (markB k xs).length = xs.length
  | [], _ => rfl
  | _ :: l, k => by simp [markB, markB_len l]
theorem markI_len : ∀ (xs : List Int) (k : Int), (markI k xs).length = xs.length
  | [], _ => rfl
  | _ :: l, k => by simp [markI, markI_len l]
theorem markG_len : ∀ (gs : List (List Int)) (k : Int), (markG k gs).length = gs.length
  | [], _ => rfl
  | _ :: l, k => by simp [markG, markG_len l]
theorem markB_get : ∀ (xs : List Bool) (k : Int) (i : Nat), i < xs.length → (markB k xs).getD i false = decide ((k + i).tmod 3 = 0)
  | [], _, i, h => absurd h (Nat.not_lt_zero _)
  | _ :: l, k, 0, h => by simp [markB]
  | _ :: l, k, i + 1, h => by
    have := markB_get l (k + 1) i (by simpa using h)
    simp only [markB, List.getD_cons_succ, this]
    have e : k + 1 + (i : Int) = k + ((i + 1 : Nat) : Int) := by omega
    rw [e]
theorem markI_get : ∀ (xs : List Int) (k : Int) (i : Nat), i < xs.length → (markI k xs).getD i 0 = k + i
  | [], _, i, h => absurd h (Nat.not_lt_zero _)
  | _ :: l, k, 0, h => by simp [markI]
  | _ :: l, k, i + 1, h => by
    have := markI_get l (k + 1) i (by simpa using h)
    simp only [markI, List.getD_cons_succ, this]
    omega
theorem markG_get : ∀ (gs : List (List Int)) (k : Int) (i : Nat), i < gs.length → (markG k gs).getD i [] = markI (k + (lenG (gs.take i) : Nat)) (gs.getD i [])
  | [], _, i, h => absurd h (Nat.not_lt_zero _)
  | x :: l, k, 0, h => by simp [markG, lenG]
  | x :: l, k, i + 1, h => by
    have := markG_get l (k + (x.length : Nat)) i (by simpa using h)
    simp only [markG, List.getD_cons_succ, List.take_succ_cons, lenG, this]
    have e : k + (x.length : Int) + ((lenG (l.take i) : Nat) : Int) = k + ((x.length + lenG (l.take i) : Nat) : Int) := by omega
    rw [e]
theorem lenG_take : ∀ (gs : List (List Int)) (j : Nat), j < gs.length → lenG (gs.take (j + 1)) = lenG (gs.take j) + (gs.getD j []).length
  | [], _, h => absurd h (Nat.not_lt_zero _)
  | x :: l, 0, h => by simp [lenG]
  | x :: l, j + 1, h => by
    simp only [List.take_succ_cons, lenG, List.getD_cons_succ]
    rw [lenG_take l j (by simpa using h)]; omega
theorem lenG_take_le : ∀ (gs : List (List Int)) (j : Nat), lenG (gs.take j) ≤ lenG gs
  | [], _ => by simp [lenG]
  | x :: l, 0 => by simp [lenG]
  | x :: l, j + 1 => by simp only [List.take_succ_cons, lenG]; have := lenG_take_le l j; omega
theorem heldB_loop (l : List Bool) (c : Int) (h0 : 0 ≤ c) (h1 : c + l.length ≤ 1099511627776) : ∀ (n i : Nat), i + n = l.length → EvP (fun k => laws_heldBoolS_L26 k (markB c l) (c + i) (i : Int)) (fun r => r = c + l.length)
  | 0, i, h => by
    obtain rfl : i = l.length := by omega
    exact EvP.fn (fun k => laws_heldBoolS_L26_eq k _ _ _) (EvP.decN (by rw [markB_len]; omega) (EvP.now rfl))
  | n + 1, i, h => by
    refine EvP.fn (fun k => laws_heldBoolS_L26_eq k _ _ _) (EvP.decY (by rw [markB_len]; omega) (EvP.yes (by omega) (EvP.yes (by rw [markB_len]; omega) (EvP.no ?_ ?_))))
    · rw [Int.toNat_natCast, markB_get l c i (by omega)]; simp
    · rw [w64 (by omega) (by omega), w64 (by omega) (by omega)]
      have e : c + (i : Int) + 1 = c + ((i + 1 : Nat) : Int) := by omega
      rw [e]
      exact heldB_loop l c h0 h1 n (i + 1) (by omega)
theorem heldI_loop (l : List Int) (c : Int) (h0 : 0 ≤ c) (h1 : c + l.length ≤ 1099511627776) : ∀ (n i : Nat), i + n = l.length → EvP (fun k => laws_heldIntS_L26 k (markI c l) (c + i) (i : Int)) (fun r => r = c + l.length)
  | 0, i, h => by
    obtain rfl : i = l.length := by omega
    exact EvP.fn (fun k => laws_heldIntS_L26_eq k _ _ _) (EvP.decN (by rw [markI_len]; omega) (EvP.now rfl))
  | n + 1, i, h => by
    refine EvP.fn (fun k => laws_heldIntS_L26_eq k _ _ _) (EvP.decY (by rw [markI_len]; omega) (EvP.yes (by omega) (EvP.yes (by rw [markI_len]; omega) (EvP.no ?_ ?_))))
    · rw [Int.toNat_natCast, markI_get l c i (by omega)]; simp
    · rw [w64 (by omega) (by omega), w64 (by omega) (by omega)]
      have e : c + (i : Int) + 1 = c + ((i + 1 : Nat) : Int) := by omega
      rw [e]
      exact heldI_loop l c h0 h1 n (i + 1) (by omega)
theorem heldI_ev (l : List Int) (c : Int) (h0 : 0 ≤ c) (h1 : c + l.length ≤ 1099511627776) : EvP (fun k => laws_heldIntS k (markI c l) c) (fun r => r = c + l.length) := by
  refine EvP.fn (fun k => laws_heldIntS_eq k _ _) ?_
  have := heldI_loop l c h0 h1 l.length 0 (by omega)
  simpa using this
theorem heldG_loop (gs : List (List Int)) (c : Int) (h0 : 0 ≤ c) (hl : gs.length ≤ 1099511627776) (h1 : c + lenG gs ≤ 1099511627776) : ∀ (n i : Nat), i + n = gs.length → EvP (fun k => laws_heldIntSS_L26 k (markG c gs) (c + (lenG (gs.take i) : Nat)) (i : Int)) (fun r => r = c + lenG gs)
  | 0, i, h => by
    obtain rfl : i = gs.length := by omega
    refine EvP.fn (fun k => laws_heldIntSS_L26_eq k _ _ _) (EvP.decN (by rw [markG_len]; omega) (EvP.now ?_))
    rw [List.take_length]
  | n + 1, i, h => by
    have t1 := lenG_take gs i (by omega)
    have t2 := lenG_take_le gs (i + 1)
    refine EvP.fn (fun k => laws_heldIntSS_L26_eq k _ _ _) (EvP.decY (by rw [markG_len]; omega) (EvP.yes (by omega) (EvP.yes (by rw [markG_len]; omega) ?_)))
    rw [Int.toNat_natCast, markG_get gs c i (by omega)]
    refine EvP.bind (heldI_ev (gs.getD i []) (c + (lenG (gs.take i) : Nat)) (by omega) (by omega)) fun x hx => EvP.decN (by omega) ?_
    rw [w64 (by omega) (by omega)]
    have e : x = c + ((lenG (gs.take (i + 1)) : Nat) : Int) := by omega
    rw [e]
    exact heldG_loop gs c h0 hl h1 n (i + 1) (by omega)
theorem heldA_ev (b : Int) (es : List Bool) (gs : List (List Int)) (he : es.length + gs.length + lenG gs ≤ 1099511627) : EvP (fun k => laws_heldAuto k b (markB 1 es) (markG (1 + (es.length : Int)) gs) 1) (fun r => r = 1 + ((es.length + lenG gs : Nat) : Int)) := by
  refine EvP.fn (fun k => laws_heldAuto_eq k _ _ _ _) ?_
  have hB : EvP (fun k => laws_heldBoolS k (markB 1 es) 1) (fun r => r = 1 + (es.length : Int)) := by
    refine EvP.fn (fun k => laws_heldBoolS_eq k _ _) ?_
    have := heldB_loop es 1 (by omega) (by omega) es.length 0 (by omega)
    simpa using this
  refine EvP.bind hB fun x hx => EvP.decN (by omega) ?_
  subst hx
  have hG : EvP (fun k => laws_heldIntSS k (markG (1 + (es.length : Int)) gs) (1 + (es.length : Int))) (fun r => r = 1 + (es.length : Int) + lenG gs) := by
    refine EvP.fn (fun k => laws_heldIntSS_eq k _ _) ?_
    have := heldG_loop gs (1 + (es.length : Int)) (by omega) (by omega) (by omega) gs.length 0 (by omega)
    simpa [lenG] using this
  exact EvP.bind hG fun y hy => EvP.decN (by omega) (EvP.now (by omega))
/-- An automaton that is ok is small. -/
theorem okHeld {o : AutoT} (h : autoOk o = true) : o.2.1.length + o.2.2.length + lenG o.2.2 ≤ 100 := by
  have ok := okA h
  have h1 := ok.n
  have h2 := ok.l
  have h3 := lenG_le (c := 4) (gs := o.2.2) (fun r hr => by have := ok.r4 r hr; omega)
  omega
theorem wrapHeld (o : AutoT) : (wrapB o).1.2.1.length + (wrapB o).1.2.2.length + lenG (wrapB o).1.2.2 ≤ 100 := by
  unfold wrapB
  split
  · rename_i h; exact okHeld h
  · simp [lenG]
theorem notHeld (a : AutoT) : (notA a).1.2.1.length + (notA a).1.2.2.length + lenG (notA a).1.2.2 ≤ 100 := by
  unfold notA
  split
  · exact wrapHeld _
  · simp [lenG]
theorem specNotAny_ev (a : AutoT) : EvP (fun k => spec_AutoNot k a.1 a.2.1 a.2.2) (fun r => r = notA a) := by
  cases h : autoOk a with
  | true =>
    have ok := okA h
    exact specNot_ev a ⟨by have := ok.n; omega, by have := ok.n; have := ok.l; omega, fun r hr => by have := ok.r4 r hr; omega⟩
  | false =>
    refine EvP.fn (fun k => spec_AutoNot_eq k _ _ _) (EvP.bind (specAutoOk_ev a) fun b hb => ?_)
    rw [h] at hb
    subst hb
    exact EvP.yes rfl (EvP.now (by unfold notA; rw [h]; rfl))
theorem law_ev (b : Int) (es : List Bool) (gs : List (List Int)) (q0 : (Lit.int .i64 b).wf = true ∧ (es.length ≤ maxLen ∧ ∀ x ∈ es, True) ∧ gs.length ≤ maxLen ∧ ∀ x ∈ gs, x.length ≤ maxLen ∧ ∀ y ∈ x, (Lit.int .i64 y).wf = true) : EvP (fun k => laws_FnExactAutoNot k b es gs) (fun r => r = true) := by
  refine EvP.fn (fun k => laws_FnExactAutoNot_eq k b es gs) (EvP.bind (sz_ev (b, es, gs) q0.2.1.1 q0.2.2.1 (fun r hr => (q0.2.2.2 r hr).1) 1048576 (by omega) (by omega)) fun s hs => EvP.dec (fun _ => EvP.now rfl) (fun h0 => ?_))
  obtain ⟨_, _, hh⟩ := hs.resolve_left h0
  have hm := hh.mid
  obtain ⟨a, ea⟩ : ∃ a : AutoT, a = (b, es, gs) := ⟨_, rfl⟩
  rw [← ea] at hh hm
  have to := toA_ev a hm
  have hto : EvP (fun k => laws_toAuto k b es gs) (fun r => r = a) := by rw [ea] at to ⊢; exact to
  have hn := notHeld a
  have hnm : Mid (notA a).1 := ⟨by omega, by omega, fun r hr => by have := lenG_mem hr; omega⟩
  refine EvP.bind hto fun x1 h1 => ?_
  subst h1
  refine EvP.bind (specNotAny_ev x1) fun w hw => EvP.bind hto fun x0 hx0 => ?_
  subst hx0
  refine EvP.bind (implNot_ev x0 hm) fun g hg => ?_
  subst hg hw
  refine EvP.bind (eqA_ev _ hnm) fun e1 he1 => EvP.yes (by simp [he1]) (EvP.no (by simp) (EvP.bind hto fun x4 h4 => ?_))
  subst h4
  refine EvP.bind (eqA_ev _ hm) fun e2 he2 => EvP.no (by simp [he2]) (EvP.yes ⟨by omega, by unfold Held at hh; omega⟩ (EvP.yes (by simp; omega) ?_))
  refine EvP.bind (eqA_ev _ hnm) fun e3 he3 => EvP.yes (by simp [he3]) (EvP.no (by simp) (EvP.yes ⟨by omega, by omega⟩ ?_))
  have held := heldA_ev (notA x4).1.1 (notA x4).1.2.1 (notA x4).1.2.2 (by omega)
  refine EvP.bind held fun q hq => EvP.decN (by omega) (EvP.no (by simp [hq]) (EvP.bind hto fun x8 h8 => ?_))
  subst h8
  refine EvP.bind (implNot_ev x8 hm) fun g hg => ?_
  subst hg
  refine EvP.bind (eqA_ev _ hnm) fun e4 he4 => EvP.yes (by simp [he4]) (EvP.no (by simp) (EvP.bind held fun q hq => EvP.decN (by omega) (EvP.no (by simp [hq]) (EvP.now rfl))))
end Go.Proofs.Ytiiefhpoomliaaa.Pure
