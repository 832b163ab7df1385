/- What the engine asks of the program: its types and frames, once; the functions that are told. -/
import Derived.Test.YtjdihogbghcajaaK4
import Derived.Test.YtjdihogbghcajaaTA
import Derived.Test.YtjdihogbghcajaaChecked
import Derived.Test.YtjdihogbghcajaaXY
import Derived.KernelRfl
namespace Go.Proofs.Ytjdihogbghcajaa.XT
open Go Go.RowKit Go.Proofs.Ytjdihogbghcajaa.Eng Go.Proofs.Ytjdihogbghcajaa.TA
set_option linter.unusedVariables false
set_option maxRecDepth 100000
theorem wf : WF Try.prog A := ⟨by kernel_rfl⟩
theorem mixed : Try.prog.follows .mixedOrders = true := by kernel_rfl
theorem ext38 (vs : List V) (x : A.out 38) (h : X.call 38 vs = some x) : CallOk Try.prog A 38 vs x := by
  obtain ⟨s, r, k, kv, rfl, hkv, hc, hx⟩ : ∃ (s : List UInt8) (r : Int) (k : List Tr) (kv : V), vs = [.agg [.d .str s, .d (.int .i64) r, kv]] ∧ (kv = .d (.sl .tree) k ∨ (kv = .k (.slice none 0 0) ∧ k = [])) ∧ (saneE (Tr.mk s r k) = true ∧ (yieldE (Tr.mk s r k)).length ≤ 140737488355328) ∧ x = yieldE (Tr.mk s r k) := by
    match vs, h with
    | [.agg [.d .str s, .d (.int .i64) r, .d (.sl .tree) k]], h =>
      have h : ifE (saneE (Tr.mk s r k) = true ∧ (yieldE (Tr.mk s r k)).length ≤ 140737488355328) (some (yieldE (Tr.mk s r k))) none = some x := h
      unfold ifE at h
      split at h
      · rename_i hc; exact ⟨s, r, k, _, rfl, .inl rfl, hc, (Option.some.inj h).symm⟩
      · cases h
    | [.agg [.d .str s, .d (.int .i64) r, .k (.slice none 0 0)]], h =>
      have h : ifE (saneE (Tr.mk s r []) = true ∧ (yieldE (Tr.mk s r [])).length ≤ 140737488355328) (some (yieldE (Tr.mk s r []))) none = some x := h
      unfold ifE at h
      split at h
      · rename_i hc; exact ⟨s, r, [], _, rfl, .inr ⟨rfl, rfl⟩, hc, (Option.some.inj h).symm⟩
      · cases h
  subst hx
  intro w keep D0 args E hk hD hg hE hdis
  obtain ⟨z, ha, v1⟩ : ∃ z, args.toList = [z] ∧ (∀ η h, Vr w D0 η h (.agg [.d .str s, .d (.int .i64) r, kv]) z) := by
    generalize args.toList = zas at hg ⊢
    cases hg with
    | cons _ _ _ z1 zs E1 E2 h1 t =>
      cases t
      cases h1 with
      | v _ _ _ _ v1 => exact ⟨z1, rfl, v1⟩
  obtain ⟨cs, rfl, hs, hl, hr⟩ := vr_agg (v1 (fun _ => .box 0) [])
  obtain rfl : args = #[.agg cs] := Array.ext' ha
  have hlen : cs.toList.length = 3 := by simpa using hs
  obtain ⟨c0, c1, c2, hcs⟩ : ∃ c0 c1 c2, cs.toList = [c0, c1, c2] := by
    match h : cs.toList, hlen with
    | [a, b, c], _ => exact ⟨a, b, c, rfl⟩
  have hcs2 : cs = #[c0, c1, c2] := Array.ext' hcs
  subst hcs2
  obtain ⟨b0, e0, rfl⟩ := vr_str (hr 0 (by show 0 < 3; decide))
  obtain rfl := vr_int (hr 1 (by show 1 < 3; decide))
  have k2 : Rz w D0 (.sl .tree) k [c2] := by
    have h2 : Vr w D0 (fun _ => .box 0) [] kv c2 := hr 2 (by show 2 < 3; decide)
    rcases hkv with rfl | ⟨rfl, rfl⟩
    · exact vr_sl h2
    · rw [vr_k h2]; exact (Rz.sl rfl).2 ⟨none, 0, rfl, Nat.le_refl _, fun h => absurd h (Nat.lt_irrefl _)⟩
  have hT : RzT w D0 (Tr.mk s r k) [.string b0, .int .i64 r, c2] := Rz.tree.2 ⟨[.string b0], [.int .i64 r, c2], rfl, ⟨b0, e0, rfl⟩, [.int .i64 r], [c2], rfl, rfl, k2⟩
  refine (XY.treeYield_calls _ _ w hT hc.1 (fun x hx => hk x (hD x hx)) hc.2).mono fun e w' ⟨he, bel⟩ => ?_
  subst he
  refine ⟨⟨D0, [_], [], [], rfl, rfl, rfl, ?_, fun _ h => h, fun _ h => .inl h, fun b h => Nat.lt_of_lt_of_le (hk b (hD b h)) bel.size, fun e he => by simp at he, .nil⟩, bel.os, bel.tape, bel.output, bel.size, fun b hb => bel.block b (hk b hb)⟩
  exact ⟨_, rfl, .inr ⟨rfl, ⟨_, by simp, rfl⟩, rfl⟩⟩
theorem ext : ExtOk Try.prog A X := by
  intro f vs x hon h
  have hon : (Nat.beq f 38) = true := hon
  skip
  obtain rfl := Nat.eq_of_beq_eq_true hon
  exact ⟨⟨Try.f38, Try.func38, by kernel_rfl, by kernel_rfl⟩, ext38 vs x h⟩
end Go.Proofs.Ytjdihogbghcajaa.XT
