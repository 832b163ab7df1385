/- YtilogmimbdpnbaaDoorSFnGramOnlyEv: a text of FnGramOnly's claim, out of the kit's print, cut down to what is used. -/
import Derived.Test.YtilogmimbdpnbaaDoorSFnGramOnlyWWords
namespace Go.Proofs.YtilogmimbdpnbaaDoor.Ev
open Go.RowKit Go.Proofs.YtilogmimbdpnbaaDoorW.PrintWords
set_option linter.unusedVariables false
def EvP {α : Type} (g : Nat → Option α) (P : α → Prop) : Prop := ∃ (K : Nat) (r : α), P r ∧ ∀ k, K ≤ k → g k = some r
theorem EvP.now {α : Type} {P : α → Prop} {r : α} (h : P r) : EvP (fun _ => some r) P := ⟨0, r, h, fun _ _ => rfl⟩
theorem EvP.bind {α β : Type} {g : Nat → Option α} {f : Nat → α → Option β} {P : α → Prop} {Q : β → Prop} (h : EvP g P) (k : ∀ a, P a → EvP (fun n => f n a) Q) : EvP (fun n => (g n).bind (f n)) Q := by
  obtain ⟨K, r, hr, hg⟩ := h
  obtain ⟨K', q, hq, hf⟩ := k r hr
  refine ⟨max K K', q, hq, fun n hn => ?_⟩
  show (g n).bind (f n) = some q
  rw [hg n (by omega)]
  exact hf n (by omega)
theorem EvP.bindSome {α β : Type} {a : α} {f : Nat → α → Option β} {Q : β → Prop} (k : EvP (fun n => f n a) Q) : EvP (fun n => (some a).bind (f n)) Q := k
theorem EvP.ite {α : Type} {c : Prop} [Decidable c] {a b : Nat → Option α} {P : α → Prop} (h : c → EvP a P) (k : ¬c → EvP b P) : EvP (fun n => if c then a n else b n) P := by
  by_cases hc : c
  · simp only [if_pos hc]; exact h hc
  · simp only [if_neg hc]; exact k hc
theorem EvP.yes {α : Type} {c : Prop} [Decidable c] {a b : Nat → Option α} {P : α → Prop} (hc : c) (h : EvP a P) : EvP (fun n => if c then a n else b n) P := by
  simp only [if_pos hc]; exact h
theorem EvP.no {α : Type} {c : Prop} [Decidable c] {a b : Nat → Option α} {P : α → Prop} (hc : ¬c) (h : EvP b P) : EvP (fun n => if c then a n else b n) P := by
  simp only [if_neg hc]; exact h
theorem EvP.step {α : Type} {g : Nat → Option α} {P : α → Prop} (h : EvP (fun k => g (k + 1)) P) : EvP g P := by
  obtain ⟨K, r, hr, hg⟩ := h
  refine ⟨K + 1, r, hr, fun n hn => ?_⟩
  obtain ⟨m, rfl⟩ : ∃ m, n = m + 1 := ⟨n - 1, by omega⟩
  exact hg m (by omega)
theorem EvP.mono {α : Type} {g : Nat → Option α} {P Q : α → Prop} (h : EvP g P) (k : ∀ r, P r → Q r) : EvP g Q := by
  obtain ⟨K, r, hr, hg⟩ := h
  exact ⟨K, r, k r hr, hg⟩
theorem EvP.rounds {α : Type} {g : Nat → Option α} {r : α} (h : EvP g (fun x => x = r)) : ∃ k, g k = some r := by
  obtain ⟨K, q, rfl, hg⟩ := h
  exact ⟨K, hg K (Nat.le_refl _)⟩
theorem EvP.congr {α : Type} {g f : Nat → Option α} {P : α → Prop} (e : ∀ k, g k = f k) (h : EvP f P) : EvP g P := by
  obtain ⟨K, r, hr, hg⟩ := h
  exact ⟨K, r, hr, fun k hk => (e k).trans (hg k hk)⟩
theorem EvP.val {α : Type} {x : Option α} {r : α} {P : α → Prop} (e : x = some r) (h : P r) : EvP (fun _ => x) P := ⟨0, r, h, fun _ _ => e⟩
theorem w64 {x : Int} (h : -9223372036854775808 ≤ x) (h' : x < 9223372036854775808) : wrap64 x = x := by
  unfold wrap64; omega
theorem rd_byte {s : List Int} (hs : ∀ x ∈ s, 0 ≤ x ∧ x ≤ 255) (i : Int) : 0 ≤ rd s i ∧ rd s i ≤ 255 := by
  unfold rd
  rw [List.getD_eq_getElem?_getD]
  cases h : s[i.toNat]? with
  | none => simp
  | some v => exact hs v (List.mem_of_getElem? h)
theorem xor_i64 (a b : Nat) (ha : a < 2 ^ 62) (hb : b < 2 ^ 62) : Go.bits .xor .i64 (a : Int) (b : Int) = ((a ^^^ b : Nat) : Int) := by
  have hp : (2 : Nat) ^ 62 ≤ 2 ^ IntKind.i64.bits := by decide
  have ha' : a % 2 ^ IntKind.i64.bits = a := Nat.mod_eq_of_lt (Nat.lt_of_lt_of_le ha hp)
  have hb' : b % 2 ^ IntKind.i64.bits = b := Nat.mod_eq_of_lt (Nat.lt_of_lt_of_le hb hp)
  have hx : a ^^^ b < 2 ^ 62 := Nat.xor_lt_two_pow ha hb
  simp only [Go.bits, BitVec.ofInt_natCast, BitVec.toNat_xor, BitVec.toNat_ofNat, ha', hb']
  rw [IntKind.wrap_i64]
  have h62 : (2 : Nat) ^ 62 = 4611686018427387904 := by decide
  rw [h62] at hx
  omega
theorem xor_nonneg (a b : Int) (h1 : 0 ≤ a) (h2 : a < 4611686018427387904) (h3 : 0 ≤ b) (h4 : b < 4611686018427387904) : 0 ≤ Go.bits .xor .i64 a b := by
  have h62 : (2 : Nat) ^ 62 = 4611686018427387904 := by decide
  obtain ⟨n, rfl⟩ := Int.eq_ofNat_of_zero_le h1
  obtain ⟨m, rfl⟩ := Int.eq_ofNat_of_zero_le h3
  rw [xor_i64 n m (by rw [h62]; omega) (by rw [h62]; omega)]
  exact Int.natCast_nonneg _
theorem tmod_range (a n : Int) (h : 0 ≤ a) (hn : 1 ≤ n) : 0 ≤ Int.tmod a n ∧ Int.tmod a n < n := ⟨Int.tmod_nonneg _ h, Int.tmod_lt_of_pos _ (by omega)⟩
end Go.Proofs.YtilogmimbdpnbaaDoor.Ev
