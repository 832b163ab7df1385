/- A calculus for functions with rounds: 'EvP g P' says that with enough rounds g answers, always the same, and what it answers meets P. -/
import Derived.Test.YtpoppblfnaipbaaDoorK1
namespace Go.Proofs.YtpoppblfnaipbaaDoor.Ev
open Go Go.Proofs.YtpoppblfnaipbaaDoor.Eng
set_option autoImplicit false
set_option linter.unusedVariables false
set_option linter.unusedSimpArgs false

def EvP {α : Type} (g : Nat → Option α) (P : α → Prop) : Prop := ∃ (K : Nat) (r : α), P r ∧ ∀ k, K ≤ k → g k = some r
section
variable {α β : Type} {P : α → Prop} {Q : β → Prop}
theorem EvP.now {r : α} (h : P r) : EvP (fun _ => some r) P := ⟨0, r, h, fun _ _ => rfl⟩
theorem EvP.bind {g : Nat → Option α} {f : Nat → α → Option β} (h : EvP g P) (k : ∀ a, P a → EvP (fun n => f n a) Q) : EvP (fun n => (g n).bind (f n)) Q := by
  obtain ⟨K, r, hr, hg⟩ := h
  obtain ⟨K', q, hq, hf⟩ := k r hr
  refine ⟨max K K', q, hq, fun n hn => ?_⟩
  show (g n).bind (f n) = some q
  rw [hg n (by omega)]
  exact hf n (by omega)
theorem EvP.ite {c : Prop} [Decidable c] {a b : Nat → Option α} (h : c → EvP a P) (k : ¬c → EvP b P) : EvP (fun n => ifE c (a n) (b n)) P := by
  by_cases hc : c
  · simp only [ifE, if_pos hc]; exact h hc
  · simp only [ifE, if_neg hc]; exact k hc
theorem EvP.yes {c : Prop} [Decidable c] {a b : Nat → Option α} (hc : c) (h : EvP a P) : EvP (fun n => ifE c (a n) (b n)) P := by
  simp only [ifE, if_pos hc]; exact h
theorem EvP.no {c : Prop} [Decidable c] {a b : Nat → Option α} (hc : ¬c) (h : EvP b P) : EvP (fun n => ifE c (a n) (b n)) P := by
  simp only [ifE, if_neg hc]; exact h
/-- A test that is printed as a bool. -/
theorem EvP.dec {c : Prop} [Decidable c] {a b : Nat → Option α} (h : c → EvP a P) (k : ¬c → EvP b P) : EvP (fun n => ifE (decide c = true) (a n) (b n)) P :=
  EvP.ite (fun h' => h (of_decide_eq_true h')) (fun h' => k (fun hc => h' (decide_eq_true hc)))
theorem EvP.decF {c : Prop} [Decidable c] {a b : Nat → Option α} (h : ¬c → EvP a P) (k : c → EvP b P) : EvP (fun n => ifE (decide c = false) (a n) (b n)) P :=
  EvP.ite (fun h' => h (of_decide_eq_false h')) (fun h' => k (by simpa using h'))
theorem EvP.notT {c : Prop} [Decidable c] {a b : Nat → Option α} (h : ¬c → EvP a P) (k : c → EvP b P) : EvP (fun n => ifE ((!decide c) = true) (a n) (b n)) P :=
  EvP.ite (fun h' => h (by simpa using h')) (fun h' => k (by simpa using h'))
theorem EvP.notF {c : Prop} [Decidable c] {a b : Nat → Option α} (h : c → EvP a P) (k : ¬c → EvP b P) : EvP (fun n => ifE ((!decide c) = false) (a n) (b n)) P :=
  EvP.ite (fun h' => h (by simpa using h')) (fun h' => k (by simpa using h'))
theorem EvP.decY {c : Prop} [Decidable c] {a b : Nat → Option α} (hc : c) (h : EvP a P) : EvP (fun n => ifE (decide c = true) (a n) (b n)) P := EvP.yes (decide_eq_true hc) h
theorem EvP.decN {c : Prop} [Decidable c] {a b : Nat → Option α} (hc : ¬c) (h : EvP b P) : EvP (fun n => ifE (decide c = true) (a n) (b n)) P := EvP.no (by simpa using hc) h
theorem EvP.fn {g f : Nat → Option α} (e : ∀ k, g (k + 1) = f k) (h : EvP f P) : EvP g P := by
  obtain ⟨K, r, hr, hg⟩ := h
  refine ⟨K + 1, r, hr, fun n hn => ?_⟩
  obtain ⟨m, rfl⟩ : ∃ m, n = m + 1 := ⟨n - 1, by omega⟩
  rw [e]; exact hg m (by omega)
theorem EvP.mono {P' : α → Prop} {g : Nat → Option α} (h : EvP g P) (k : ∀ r, P r → P' r) : EvP g P' := by
  obtain ⟨K, r, hr, hg⟩ := h
  exact ⟨K, r, k r hr, hg⟩
theorem EvP.rounds {g : Nat → Option α} {r : α} (h : EvP g (fun x => x = r)) : ∃ k, g k = some r := by
  obtain ⟨K, q, rfl, hg⟩ := h
  exact ⟨K, hg K (Nat.le_refl _)⟩
theorem EvP.congr {g f : Nat → Option α} (e : ∀ k, g k = f k) (h : EvP f P) : EvP g P := by
  obtain ⟨K, r, hr, hg⟩ := h
  exact ⟨K, r, hr, fun k hk => (e k).trans (hg k hk)⟩
theorem EvP.both {g : Nat → Option α} {P' : α → Prop} (h : EvP g P) (h' : EvP g P') : EvP g (fun x => P x ∧ P' x) := by
  obtain ⟨K, r, hr, hg⟩ := h
  obtain ⟨K', r', hr', hg'⟩ := h'
  have : r = r' := by have := (hg (max K K') (by omega)).symm.trans (hg' (max K K') (by omega)); simpa using this
  subst this
  exact ⟨K, r, ⟨hr, hr'⟩, hg⟩
end
theorem w64 {x : Int} (h : -9223372036854775808 ≤ x) (h' : x < 9223372036854775808) : IntKind.i64.wrap x = x := by
  rw [IntKind.wrap_i64]; omega
theorem w8 {x : Int} (h : 0 ≤ x) (h' : x < 256) : IntKind.u8.wrap x = x := by
  have : IntKind.u8.wrap x = x % 256 := by simp [IntKind.wrap, IntKind.signed, IntKind.bits]
  rw [this]; omega
theorem getD_byte {s : List Int} (hs : ∀ x ∈ s, 0 ≤ x ∧ x ≤ 255) (i : Nat) : 0 ≤ s.getD i 0 ∧ s.getD i 0 ≤ 255 := by
  rw [List.getD_eq_getElem?_getD]
  cases h : s[i]? with
  | none => simp
  | some v => exact hs v (List.mem_of_getElem? h)
theorem getD_mem {α : Type} (l : List α) (i : Nat) (d : α) (h : i < l.length) : l.getD i d ∈ l := by
  rw [List.getD_eq_getElem?_getD, List.getElem?_eq_getElem h]
  exact List.getElem_mem _
def bxor (a b : Int) : Int := IntKind.i64.wrap ((BitVec.ofInt IntKind.i64.bits a ^^^ BitVec.ofInt IntKind.i64.bits b).toNat : Int)
theorem xor_nonneg (a b : Int) (h1 : 0 ≤ a) (h2 : a < 4611686018427387904) (h3 : 0 ≤ b) (h4 : b < 4611686018427387904) : 0 ≤ bxor a b := by
  obtain ⟨n, rfl⟩ := Int.eq_ofNat_of_zero_le h1
  obtain ⟨m, rfl⟩ := Int.eq_ofNat_of_zero_le h3
  have h62 : (2 : Nat) ^ 62 = 4611686018427387904 := by decide
  have hx : n ^^^ m < 2 ^ 62 := Nat.xor_lt_two_pow (by rw [h62]; omega) (by rw [h62]; omega)
  have e : (BitVec.ofInt IntKind.i64.bits (n : Int) ^^^ BitVec.ofInt IntKind.i64.bits (m : Int)).toNat = n ^^^ m := by
    have hp : (2 : Nat) ^ 62 ≤ 2 ^ IntKind.i64.bits := by decide
    rw [BitVec.ofInt_natCast, BitVec.ofInt_natCast, BitVec.toNat_xor, BitVec.toNat_ofNat, BitVec.toNat_ofNat, Nat.mod_eq_of_lt, Nat.mod_eq_of_lt]
    · exact Nat.lt_of_lt_of_le (by rw [h62]; omega) hp
    · exact Nat.lt_of_lt_of_le (by rw [h62]; omega) hp
  unfold bxor
  rw [e, w64 (by omega) (by rw [h62] at hx; omega)]
  exact Int.natCast_nonneg _
theorem tmod_range (a n : Int) (h : 0 ≤ a) (hn : 1 ≤ n) : 0 ≤ Int.tmod a n ∧ Int.tmod a n < n := ⟨Int.tmod_nonneg _ h, Int.tmod_lt_of_pos _ (by omega)⟩
theorem wf_byte {x : Int} (h : (Lit.int .u8 x).wf = true) : 0 ≤ x ∧ x ≤ 255 := by
  simp [Lit.wf, IntKind.min, IntKind.max, IntKind.signed, IntKind.bits] at h
  omega
end Go.Proofs.YtpoppblfnaipbaaDoor.Ev
