/- What the engine asks of the program: its types and frames, once; the functions that are told. -/
import Derived.Test.YtcgafajbabejpaaDoorK4
import Derived.Test.YtcgafajbabejpaaDoorTA
import Derived.Test.YtcgafajbabejpaaDoorChecked
import Derived.Test.YtcgafajbabejpaaDoorShelf
import Derived.KernelRfl
namespace Go.Proofs.YtcgafajbabejpaaDoor.XT
open Go Go.RowKit Go.Proofs.YtcgafajbabejpaaDoor.Eng Go.Proofs.YtcgafajbabejpaaDoor.TA
set_option linter.unusedVariables false
set_option maxRecDepth 100000
theorem wf : WF Tryd.prog A := ⟨by kernel_rfl⟩
theorem marks : MarksOk Tryd.prog A := fun g h => by
  have h : false = true := h
  cases h
theorem mixed : Tryd.prog.follows .mixedOrders = true := by kernel_rfl
theorem trim_eq (s c : List UInt8) : trimE s c = Lib.trimS s c := by
  have key : ∀ (p : UInt8 → Bool) (l : List UInt8), ((l.dropWhile p).reverse.dropWhile p).reverse = (l.reverse.dropWhile p).reverse.dropWhile p := by
    intro p l
    induction l with
    | nil => rfl
    | cons x l ih =>
      rw [List.dropWhile_cons]
      cases hx : p x with
      | true =>
        simp only [if_true]
        rw [ih, List.reverse_cons]
        rw [List.dropWhile_append]
        split
        · rename_i he
          have he : l.reverse.dropWhile p = [] := by simpa using he
          rw [he]
          simp [hx]
        · rw [List.reverse_append]
          simp [hx]
      | false =>
        simp only [Bool.false_eq_true, if_false]
        rw [List.reverse_cons, List.dropWhile_append]
        split
        · simp [hx]
        · rw [List.reverse_append]
          simp [hx]
  unfold trimE Lib.trimS Lib.trimLeftS Lib.trimRightS
  exact key _ s
theorem ext48 (vs : List V) (x : A.out 48) (h : X.call 48 vs = some x) : CallOk Tryd.prog A 48 vs x := by
  obtain ⟨s, c, rfl, hc, hx⟩ : ∃ s c : List UInt8, vs = [.d .str s, .d .str c] ∧ (s.length ≤ 9223372036854775807 ∧ c.length < 4294967281 ∧ (c.all fun b => decide (b.toNat < 128)) = true) ∧ x = trimE s c := by
    match vs, h with
    | [.d .str s, .d .str c], h =>
      have h : ifE (s.length ≤ 9223372036854775807 ∧ c.length < 4294967281 ∧ (c.all fun b => decide (b.toNat < 128)) = true) (some (trimE s c)) none = some x := h
      unfold ifE at h
      split at h
      · rename_i hc; exact ⟨s, c, rfl, hc, (Option.some.inj h).symm⟩
      · cases h
  subst hx
  intro w keep D0 args E hk hD hg hE hdis
  obtain ⟨z1, z2, ha, v1, v2⟩ : ∃ z1 z2, args.toList = [z1, z2] ∧ (∀ η h, Vr w D0 η h (.d .str s) z1) ∧ (∀ η h, Vr w D0 η h (.d .str c) z2) := by
    generalize args.toList = zas at hg ⊢
    cases hg with
    | cons _ _ _ z1 zs E1 E2 h1 t =>
      cases t with
      | cons _ _ _ z2 zs2 E3 E4 h2 t2 =>
        cases t2
        cases h1 with
        | v _ _ _ _ v1 => cases h2 with | v _ _ _ _ v2 => exact ⟨z1, z2, rfl, v1, v2⟩
  have str : ∀ {s : List UInt8} {z : Value}, (∀ η h, Vr w D0 η h (.d .str s) z) → ∃ b : ByteArray, b.data.toList = s ∧ z = .string b := fun {s z} v => by
    cases v (fun _ => .box 0) [] with
    | d _ _ _ _ hr => obtain ⟨b, h1, h2⟩ := hr; exact ⟨b, h1, by simpa using h2⟩
  obtain ⟨b1, e1, rfl⟩ := str v1
  obtain ⟨b2, e2, rfl⟩ := str v2
  obtain rfl : args = #[.string b1, .string b2] := Array.ext' ha
  have hs : ∀ b : ByteArray, b.size = b.data.toList.length := fun b => by rw [Array.length_toList]; rfl
  refine (Any.strings_Trim_laid Tryd.lays160 (by kernel_rfl) b1 b2 w (by rw [hs, e1]; exact hc.1) (by rw [hs, e2]; exact hc.2.1) (fun j b hb => by
    rw [e2] at hb
    have := List.all_eq_true.1 hc.2.2 b (List.mem_of_getElem? hb)
    exact of_decide_eq_true this)).mono fun e w' ⟨he, bel⟩ => ?_
  subst he
  refine ⟨⟨D0, [_], [], [], rfl, rfl, rfl, ?_, fun _ h => h, fun _ h => .inl h, fun b h => Nat.lt_of_lt_of_le (hk b (hD b h)) bel.size, fun e he => by simp at he, .nil⟩, bel.os, bel.tape, bel.output, bel.size, fun b hb => bel.block b (hk b hb)⟩
  rw [e1, e2]
  exact ⟨_, rfl, .inr ⟨rfl, ⟨_, by rw [← trim_eq], rfl⟩, rfl⟩⟩
theorem ext : ExtOk Tryd.prog A X := by
  intro f vs x hon h
  have hon : (Nat.beq f 48) = true := hon
  skip
  obtain rfl := Nat.eq_of_beq_eq_true hon
  exact ⟨⟨Tryd.f48, Tryd.func48, by kernel_rfl, by kernel_rfl⟩, ext48 vs x h⟩
end Go.Proofs.YtcgafajbabejpaaDoor.XT
