/- Edit distance on lists: a recursive definition, and that it is a metric. -/
import Derived.Test.YtilogmimbdpnbaaDoorEv
namespace Go.Proofs.YtilogmimbdpnbaaDoor.Lev
variable {α : Type} [DecidableEq α]

def lev : List α → List α → Nat
  | [], b => b.length
  | a, [] => a.length
  | x :: a, y :: b => min (lev a b + (if x = y then 0 else 1)) (min (lev a (y :: b) + 1) (lev (x :: a) b + 1))
termination_by a b => a.length + b.length

theorem lev_nil_left (b : List α) : lev [] b = b.length := by unfold lev; rfl
theorem lev_nil_right (a : List α) : lev a [] = a.length := by
  cases a with
  | nil => rw [lev_nil_left]
  | cons x a => unfold lev; rfl
theorem lev_cons (x y : α) (a b : List α) : lev (x :: a) (y :: b) = min (lev a b + (if x = y then 0 else 1)) (min (lev a (y :: b) + 1) (lev (x :: a) b + 1)) := by
  rw [lev]

theorem lev_del (x : α) (a b : List α) : lev (x :: a) b ≤ lev a b + 1 := by
  cases b with
  | nil => rw [lev_nil_right, lev_nil_right]; simp
  | cons y b => rw [lev_cons]; omega
theorem lev_ins (y : α) (a b : List α) : lev a (y :: b) ≤ lev a b + 1 := by
  cases a with
  | nil => rw [lev_nil_left, lev_nil_left]; simp
  | cons x a => rw [lev_cons]; omega
theorem lev_sub (x y : α) (a b : List α) : lev (x :: a) (y :: b) ≤ lev a b + (if x = y then 0 else 1) := by
  rw [lev_cons]; omega

theorem lev_symm (a b : List α) : lev a b = lev b a := by
  induction a, b using lev.induct with
  | case1 b => rw [lev_nil_left, lev_nil_right]
  | case2 a h => rw [lev_nil_left, lev_nil_right]
  | case3 x a y b h1 h2 h3 =>
    rw [lev_cons, lev_cons, h1, h2, h3]
    have : (if x = y then 0 else 1) = (if y = x then 0 else 1) := by
      by_cases h : x = y
      · simp [h]
      · rw [if_neg h, if_neg (fun e => h e.symm)]
    rw [this]; omega

theorem lev_self (a : List α) : lev a a = 0 := by
  induction a with
  | nil => rw [lev_nil_left]; rfl
  | cons x a ih => have := lev_sub x x a a; rw [ih] at this; simpa using this

theorem lev_eq_zero (a b : List α) (h : lev a b = 0) : a = b := by
  induction a, b using lev.induct with
  | case1 b => rw [lev_nil_left] at h; exact (List.eq_nil_of_length_eq_zero h).symm
  | case2 a h' => rw [lev_nil_right] at h; exact List.eq_nil_of_length_eq_zero h
  | case3 x a y b h1 h2 h3 =>
    rw [lev_cons] at h
    by_cases e : x = y
    · rw [if_pos e] at h
      rw [h1 (by omega), e]
    · rw [if_neg e] at h; omega

theorem lev_le_max (a b : List α) : lev a b ≤ max a.length b.length := by
  induction a, b using lev.induct with
  | case1 b => rw [lev_nil_left]; simp
  | case2 a h' => rw [lev_nil_right]; simp
  | case3 x a y b h1 h2 h3 =>
    have := lev_sub x y a b
    have h : (if x = y then 0 else 1) ≤ 1 := by split <;> omega
    simp only [List.length_cons]; omega

theorem lev_tri (n : Nat) : ∀ (a b c : List α), a.length + b.length + c.length ≤ n → lev a c ≤ lev a b + lev b c := by
  induction n with
  | zero =>
    intro a b c h
    have ha : a = [] := List.eq_nil_of_length_eq_zero (by omega)
    have hc : c = [] := List.eq_nil_of_length_eq_zero (by omega)
    subst ha; subst hc; rw [lev_self]; omega
  | succ n ih =>
    intro a b c h
    cases a with
    | nil =>
      rw [lev_nil_left, lev_nil_left]
      -- c.length ≤ b.length + lev b c
      clear h
      induction b, c using lev.induct with
      | case1 c => rw [lev_nil_left]; omega
      | case2 b h' => simp
      | case3 x b y c h1 h2 h3 =>
        rw [lev_cons]; simp only [List.length_cons] at *; omega
    | cons x a =>
      cases c with
      | nil =>
        rw [lev_nil_right, lev_nil_right]
        clear h
        have key : ∀ (a b : List α), a.length ≤ lev a b + b.length := by
          intro a b
          induction a, b using lev.induct with
          | case1 c => rw [lev_nil_left]; simp
          | case2 b h' => rw [lev_nil_right]; omega
          | case3 x b y c h1 h2 h3 =>
            rw [lev_cons]; simp only [List.length_cons] at *; omega
        exact key _ _
      | cons z c =>
        cases b with
        | nil =>
          have := lev_le_max (x :: a) (z :: c)
          rw [lev_nil_left, lev_nil_right]; omega
        | cons y b =>
          simp only [List.length_cons] at h
          have e1 := lev_cons x y a b
          have e2 := lev_cons y z b c
          have i1 := ih a b c (by omega)
          have i2 := ih a b (z :: c) (by simp only [List.length_cons]; omega)
          have i3 := ih a (y :: b) c (by simp only [List.length_cons]; omega)
          have i4 := ih a (y :: b) (z :: c) (by simp only [List.length_cons]; omega)
          have i5 := ih (x :: a) b c (by simp only [List.length_cons]; omega)
          have i6 := ih (x :: a) b (z :: c) (by simp only [List.length_cons]; omega)
          have i7 := ih (x :: a) (y :: b) c (by simp only [List.length_cons]; omega)
          have g1 := lev_cons x z a c
          have hd : (if x = z then 0 else 1) ≤ (if x = y then 0 else 1) + (if y = z then 0 else 1) := by
            by_cases p : x = y
            · subst p; simp
            · rw [if_neg p]; split <;> omega
          omega

theorem lev_triangle (a b c : List α) : lev a c ≤ lev a b + lev b c := lev_tri _ a b c (Nat.le_refl _)
end Go.Proofs.YtilogmimbdpnbaaDoor.Lev
