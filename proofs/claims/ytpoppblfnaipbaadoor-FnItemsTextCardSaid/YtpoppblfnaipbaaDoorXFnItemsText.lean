/- What the engine asks of the program: its types and frames, once; the functions that are told. -/
import Derived.Test.YtpoppblfnaipbaaDoorK4
import Derived.Test.YtpoppblfnaipbaaDoorTA
import Derived.Test.YtpoppblfnaipbaaDoorChecked
import Derived.Test.YtpoppblfnaipbaaDoorShelf
import Derived.Test.YtpoppblfnaipbaaDoorXI
import Derived.KernelRfl
namespace Go.Proofs.YtpoppblfnaipbaaDoor.XT
open Go Go.RowKit Go.Proofs.YtpoppblfnaipbaaDoor.Eng Go.Proofs.YtpoppblfnaipbaaDoor.TA
set_option linter.unusedVariables false
set_option maxRecDepth 100000
theorem wf : WF Tryd.prog A := ⟨by kernel_rfl⟩
theorem marks : MarksOk Tryd.prog A := fun g h => by
  have h : false = true := h
  cases h
theorem mixed : Tryd.prog.follows .mixedOrders = true := by kernel_rfl
theorem ext15 (S : Sm A) (HS : Calld Tryd.prog S) (vs : List V) (x : A.out 15) (h : X.call S 15 vs = some x) : CallOk Tryd.prog A 15 vs x := by
  obtain ⟨s, rs, l, b, rfl, hb, hf, hx⟩ : ∃ (s : List UInt8) (rs : List (List UInt8 × List UInt8)) (l : List (Int × Int × List UInt8)) (b : Bool), vs = [.agg [.d .str s, .d (.sl (.pair .str .str)) rs], .d (.sl (.pair (.int .i64) (.pair (.int .i64) .str))) l] ∧ (show Option Bool from S.call 18 [.agg [.d .str s, .d (.sl (.pair .str .str)) rs], .d (.sl (.pair (.int .i64) (.pair (.int .i64) .str))) l]) = some b ∧ (b = true → allFitE s rs l = true ∧ (linesE s rs l).length ≤ 140737488355328) ∧ x = XI.itemsE b s rs l := by
    match vs, h with
    | [.agg [.d .str s, .d (.sl (.pair .str .str)) rs], .d (.sl (.pair (.int .i64) (.pair (.int .i64) .str))) l], h =>
      have h : ((show Option Bool from S.call 18 [.agg [.d .str s, .d (.sl (.pair .str .str)) rs], .d (.sl (.pair (.int .i64) (.pair (.int .i64) .str))) l]).bind fun b => ifE (b = true) (ifE (allFitE s rs l = true ∧ (linesE s rs l).length ≤ 140737488355328) (some (linesE s rs l)) none) (some ([] : List UInt8))) = some x := h
      cases hc : (show Option Bool from S.call 18 [.agg [.d .str s, .d (.sl (.pair .str .str)) rs], .d (.sl (.pair (.int .i64) (.pair (.int .i64) .str))) l]) with
      | none => rw [hc] at h; cases h
      | some b =>
        rw [hc] at h
        have h : ifE (b = true) (ifE (allFitE s rs l = true ∧ (linesE s rs l).length ≤ 140737488355328) (some (linesE s rs l)) none) (some ([] : List UInt8)) = some x := h
        cases b with
        | true =>
          have h : ifE (allFitE s rs l = true ∧ (linesE s rs l).length ≤ 140737488355328) (some (linesE s rs l)) none = some x := h
          unfold ifE at h
          split at h
          · rename_i hf; exact ⟨s, rs, l, true, rfl, hc, fun _ => hf, (Option.some.inj h).symm⟩
          · cases h
        | false =>
          have h : some ([] : List UInt8) = some x := h
          exact ⟨s, rs, l, false, rfl, hc, fun h => (by cases h), (Option.some.inj h).symm⟩
  subst hx
  obtain ⟨_, HC⟩ := HS 18 _ b hb
  exact XI.items_ok (b := b) HC rfl rfl hf (fun w D z hz => ⟨_, rfl, .inr ⟨rfl, ⟨z, hz, rfl⟩, rfl⟩⟩) rfl rfl
theorem trim_eq (s c : List UInt8) : trimE s c = Lib.trimS s c := by
  have key : ∀ (p : UInt8 → Bool) (l : List UInt8), ((l.dropWhile p).reverse.dropWhile p).reverse = (l.reverse.dropWhile p).reverse.dropWhile p := by
    intro p l
    induction l with
    | nil => rfl
    | cons x l ih =>
      rw [List.dropWhile_cons]
      cases hx : p x with
      | true =>
        simp only [if_true]
        rw [ih, List.reverse_cons]
        rw [List.dropWhile_append]
        split
        · rename_i he
          have he : l.reverse.dropWhile p = [] := by simpa using he
          rw [he]
          simp [hx]
        · rw [List.reverse_append]
          simp [hx]
      | false =>
        simp only [Bool.false_eq_true, if_false]
        rw [List.reverse_cons, List.dropWhile_append]
        split
        · simp [hx]
        · rw [List.reverse_append]
          simp [hx]
  unfold trimE Lib.trimS Lib.trimLeftS Lib.trimRightS
  exact key _ s
theorem ext48 (S : Sm A) (HS : Calld Tryd.prog S) (vs : List V) (x : A.out 48) (h : X.call S 48 vs = some x) : CallOk Tryd.prog A 48 vs x := by
  obtain ⟨s, c, rfl, hc, hx⟩ : ∃ s c : List UInt8, vs = [.d .str s, .d .str c] ∧ (s.length ≤ 9223372036854775807 ∧ c.length < 4294967281 ∧ (c.all fun b => decide (b.toNat < 128)) = true) ∧ x = trimE s c := by
    match vs, h with
    | [.d .str s, .d .str c], h =>
      have h : ifE (s.length ≤ 9223372036854775807 ∧ c.length < 4294967281 ∧ (c.all fun b => decide (b.toNat < 128)) = true) (some (trimE s c)) none = some x := h
      unfold ifE at h
      split at h
      · rename_i hc; exact ⟨s, c, rfl, hc, (Option.some.inj h).symm⟩
      · cases h
  subst hx
  intro w keep D0 args E hk hD hg hE hdis
  obtain ⟨z1, z2, ha, v1, v2⟩ : ∃ z1 z2, args.toList = [z1, z2] ∧ (∀ η h, Vr w D0 η h (.d .str s) z1) ∧ (∀ η h, Vr w D0 η h (.d .str c) z2) := by
    generalize args.toList = zas at hg ⊢
    cases hg with
    | cons _ _ _ z1 zs E1 E2 h1 t =>
      cases t with
      | cons _ _ _ z2 zs2 E3 E4 h2 t2 =>
        cases t2
        cases h1 with
        | v _ _ _ _ v1 => cases h2 with | v _ _ _ _ v2 => exact ⟨z1, z2, rfl, v1, v2⟩
  have str : ∀ {s : List UInt8} {z : Value}, (∀ η h, Vr w D0 η h (.d .str s) z) → ∃ b : ByteArray, b.data.toList = s ∧ z = .string b := fun {s z} v => by
    cases v (fun _ => .box 0) [] with
    | d _ _ _ _ hr => obtain ⟨b, h1, h2⟩ := hr; exact ⟨b, h1, by simpa using h2⟩
  obtain ⟨b1, e1, rfl⟩ := str v1
  obtain ⟨b2, e2, rfl⟩ := str v2
  obtain rfl : args = #[.string b1, .string b2] := Array.ext' ha
  have hs : ∀ b : ByteArray, b.size = b.data.toList.length := fun b => by rw [Array.length_toList]; rfl
  refine (Any.strings_Trim_laid Tryd.lays160 (by kernel_rfl) b1 b2 w (by rw [hs, e1]; exact hc.1) (by rw [hs, e2]; exact hc.2.1) (fun j b hb => by
    rw [e2] at hb
    have := List.all_eq_true.1 hc.2.2 b (List.mem_of_getElem? hb)
    exact of_decide_eq_true this)).mono fun e w' ⟨he, bel⟩ => ?_
  subst he
  refine ⟨⟨D0, [_], [], [], rfl, rfl, rfl, ?_, fun _ h => h, fun _ h => .inl h, fun b h => Nat.lt_of_lt_of_le (hk b (hD b h)) bel.size, fun e he => by simp at he, .nil⟩, bel.os, bel.tape, bel.output, bel.size, fun b hb => bel.block b (hk b hb)⟩
  rw [e1, e2]
  exact ⟨_, rfl, .inr ⟨rfl, ⟨_, by rw [← trim_eq], rfl⟩, rfl⟩⟩
theorem ext65 (S : Sm A) (HS : Calld Tryd.prog S) (vs : List V) (x : A.out 65) (h : X.call S 65 vs = some x) : CallOk Tryd.prog A 65 vs x := by
  have h : (none : Option (A.out 65)) = some x := h
  cases h
theorem ext68 (S : Sm A) (HS : Calld Tryd.prog S) (vs : List V) (x : A.out 68) (h : X.call S 68 vs = some x) : CallOk Tryd.prog A 68 vs x := by
  have h : (none : Option (A.out 68)) = some x := h
  cases h
theorem ext : ExtOk Tryd.prog A X := by
  intro S HS f vs x hon h
  have hon : (Nat.beq f 15 || Nat.beq f 48 || Nat.beq f 65 || Nat.beq f 68) = true := hon
  simp only [Bool.or_eq_true] at hon
  rcases hon with (((hon) | hon) | hon) | hon
  · obtain rfl := Nat.eq_of_beq_eq_true hon
    exact ⟨⟨Tryd.f15, Tryd.func15, by kernel_rfl, by kernel_rfl⟩, ext15 S HS vs x h⟩
  · obtain rfl := Nat.eq_of_beq_eq_true hon
    exact ⟨⟨Tryd.f48, Tryd.func48, by kernel_rfl, by kernel_rfl⟩, ext48 S HS vs x h⟩
  · obtain rfl := Nat.eq_of_beq_eq_true hon
    exact ⟨⟨Tryd.f65, Tryd.func65, by kernel_rfl, by kernel_rfl⟩, ext65 S HS vs x h⟩
  · obtain rfl := Nat.eq_of_beq_eq_true hon
    exact ⟨⟨Tryd.f68, Tryd.func68, by kernel_rfl, by kernel_rfl⟩, ext68 S HS vs x h⟩
end Go.Proofs.YtpoppblfnaipbaaDoor.XT
