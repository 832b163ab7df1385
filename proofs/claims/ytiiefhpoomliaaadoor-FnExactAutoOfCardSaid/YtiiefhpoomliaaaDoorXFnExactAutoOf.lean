/- What the engine asks of the program: its types and frames, once; the functions that are told. -/
import Derived.Test.YtiiefhpoomliaaaDoorK4
import Derived.Test.YtiiefhpoomliaaaDoorTA
import Derived.Test.YtiiefhpoomliaaaDoorChecked
import Derived.Test.YtiiefhpoomliaaaDoorXK
import Derived.Test.YtiiefhpoomliaaaDoorShelf
import Derived.Test.YtiiefhpoomliaaaDoorXM
import Derived.KernelRfl
namespace Go.Proofs.YtiiefhpoomliaaaDoor.XT
open Go Go.RowKit Go.Proofs.YtiiefhpoomliaaaDoor.Eng Go.Proofs.YtiiefhpoomliaaaDoor.TA
set_option linter.unusedVariables false
set_option maxRecDepth 100000
theorem wf : WF Tryd.prog A := ⟨by kernel_rfl⟩
theorem marks : MarksOk Tryd.prog A := fun g h => by
  have h : mvT [7] g = true := h
  obtain rfl : g = 7 := by
    unfold mvT at h
    split at h
    · rename_i e; exact (Nat.eq_of_beq_eq_true e).symm
    · cases h
  exact ⟨⟨Tryd.f7, Tryd.func7, by kernel_rfl, by kernel_rfl⟩, XK.mark_calls⟩
theorem mixed : Tryd.prog.follows .mixedOrders = true := by kernel_rfl
theorem ext11 (vs : List V) (x : A.out 11) (h : X.call 11 vs = some x) : CallOk Tryd.prog A 11 vs x := by
  obtain ⟨v, c, rfl, hc, hx⟩ : ∃ v c : Int, vs = [.d (.sl (.int .i64)) [v], .d (.int .i64) c] ∧ (1 ≤ c ∧ c ≤ 1000000) ∧ x = List.replicate c.toNat v := by
    match vs, h with
    | [.d (.sl (.int .i64)) l, .d (.int .i64) c], h =>
      have h : ifE (List.length l = 1 ∧ 1 ≤ c ∧ c ≤ 1000000) (some (List.replicate c.toNat (List.getD l 0 0))) none = some x := h
      unfold ifE at h
      split at h
      · rename_i hc
        match l, hc, h with
        | [v], hc, h => exact ⟨v, c, rfl, hc.2, (Option.some.inj h).symm⟩
      · cases h
  subst hx
  intro w keep D0 args E hk hD hg hE hdis
  obtain ⟨z1, z2, ha, v1, v2⟩ : ∃ z1 z2, args.toList = [z1, z2] ∧ (∀ η h, Vr w D0 η h (.d (.sl (.int .i64)) [v]) z1) ∧ (∀ η h, Vr w D0 η h (.d (.int .i64) c) z2) := by
    generalize args.toList = zas at hg ⊢
    cases hg with
    | cons _ _ _ z1 zs E1 E2 h1 t =>
      cases t with
      | cons _ _ _ z2 zs2 E3 E4 h2 t2 =>
        cases t2
        cases h1 with
        | v _ _ _ _ v1 => cases h2 with | v _ _ _ _ v2 => exact ⟨z1, z2, rfl, v1, v2⟩
  obtain ⟨ad, cap, e, hcap, hrow⟩ := (Rz.sl rfl).1 (vr_sl (v1 (fun _ => .box 0) []))
  obtain ⟨b, off, rfl, hb, hall⟩ := hrow (Nat.zero_lt_succ 0)
  obtain ⟨us, hl, hp, hcell⟩ := hall 0 (Nat.zero_lt_succ 0)
  have hp : us = [.int .i64 v] := hp
  subst hp
  have hcell := hcell 0 (Nat.zero_lt_succ 0)
  have e2 := vr_int (v2 (fun _ => .box 0) [])
  have e : z1 = .slice (some ⟨b, off, none⟩) 1 cap := by simpa using e
  subst e e2
  obtain ⟨n, rfl⟩ : ∃ n : Nat, c = n := ⟨c.toNat, by omega⟩
  obtain rfl : args = #[_, _] := Array.ext' ha
  refine (XM.repeat_calls v n cap b off w (by omega) (by omega) (by simpa using hcell) (hk b (hD b hb))).mono fun e w' ⟨he, hr, bel⟩ => ?_
  subst he
  have hlt : w.heap.size < w'.heap.size := (Array.getElem?_eq_some_iff.1 hr).1
  have hn : ((n : Int)).toNat = n := Int.toNat_natCast n
  have hown : OwnE w' D0 (.sl (.int .i64)) 1 (List.replicate n v) [.slice (some ⟨w.heap.size, 0, none⟩) n n] (fun y => y = w.heap.size) := by
    have hl : List.length (List.replicate n v) = n := List.length_replicate
    refine OwnE.mk rfl (.inr ⟨w.heap.size, 0, n, _, _, fun _ _ => False, by rw [hl], hr, by rw [hl]; exact Nat.le_refl _, by simp [Ty.size], by unfold maxLen; omega, fun i hi => ⟨[.int .i64 v], rfl, fun j hj => ?_, ?_⟩, fun x => ⟨.inl, fun h => h.elim id (fun ⟨_, _, h⟩ => h.elim)⟩, fun _ _ h => h, fun _ _ _ _ _ h => h.elim⟩)
    · rw [hl] at hi
      obtain rfl : j = 0 := by simpa [Ty.size] using hj
      simp [Ty.size, hi]
    · rw [hl] at hi
      refine OwnE.zero.2 ⟨?_, fun _ h => h⟩
      have : rd (t := .int .i64) (List.replicate n v) i = v := by simp [rd, List.getD, hi]
      rw [this]; rfl
  refine ⟨⟨D0, [_], [], [⟨0, .row (.int .i64) 0 0 false (List.replicate n v), .row (.slice (some ⟨w.heap.size, 0, none⟩) n n), fun y => y = w.heap.size⟩], rfl, rfl, rfl, ?_, fun _ h => h, fun _ h => .inl h, fun b h => Nat.lt_of_lt_of_le (hk b (hD b h)) bel.size, fun e he b hb => ?_, .cons (fun _ h => by cases h) .nil⟩, bel.os, bel.tape, bel.output, bel.size, fun b hb => bel.block b (hk b hb)⟩
  · rw [hn]
    exact ⟨_, rfl, .inr ⟨rfl, _, _, rfl, Leaf.slice, hown, rfl⟩⟩
  · obtain rfl := List.mem_singleton.1 he
    have hb : b = w.heap.size := hb
    subst hb
    exact ⟨fun h => Nat.lt_irrefl _ (hk _ h), hlt, fun h => Nat.lt_irrefl _ (hk _ (hD _ h))⟩
theorem trim_eq (s c : List UInt8) : trimE s c = Lib.trimS s c := by
  have key : ∀ (p : UInt8 → Bool) (l : List UInt8), ((l.dropWhile p).reverse.dropWhile p).reverse = (l.reverse.dropWhile p).reverse.dropWhile p := by
    intro p l
    induction l with
    | nil => rfl
    | cons x l ih =>
      rw [List.dropWhile_cons]
      cases hx : p x with
      | true =>
        simp only [if_true]
        rw [ih, List.reverse_cons]
        rw [List.dropWhile_append]
        split
        · rename_i he
          have he : l.reverse.dropWhile p = [] := by simpa using he
          rw [he]
          simp [hx]
        · rw [List.reverse_append]
          simp [hx]
      | false =>
        simp only [Bool.false_eq_true, if_false]
        rw [List.reverse_cons, List.dropWhile_append]
        split
        · simp [hx]
        · rw [List.reverse_append]
          simp [hx]
  unfold trimE Lib.trimS Lib.trimLeftS Lib.trimRightS
  exact key _ s
theorem ext24 (vs : List V) (x : A.out 24) (h : X.call 24 vs = some x) : CallOk Tryd.prog A 24 vs x := by
  obtain ⟨s, c, rfl, hc, hx⟩ : ∃ s c : List UInt8, vs = [.d .str s, .d .str c] ∧ (s.length ≤ 9223372036854775807 ∧ c.length < 4294967281 ∧ (c.all fun b => decide (b.toNat < 128)) = true) ∧ x = trimE s c := by
    match vs, h with
    | [.d .str s, .d .str c], h =>
      have h : ifE (s.length ≤ 9223372036854775807 ∧ c.length < 4294967281 ∧ (c.all fun b => decide (b.toNat < 128)) = true) (some (trimE s c)) none = some x := h
      unfold ifE at h
      split at h
      · rename_i hc; exact ⟨s, c, rfl, hc, (Option.some.inj h).symm⟩
      · cases h
  subst hx
  intro w keep D0 args E hk hD hg hE hdis
  obtain ⟨z1, z2, ha, v1, v2⟩ : ∃ z1 z2, args.toList = [z1, z2] ∧ (∀ η h, Vr w D0 η h (.d .str s) z1) ∧ (∀ η h, Vr w D0 η h (.d .str c) z2) := by
    generalize args.toList = zas at hg ⊢
    cases hg with
    | cons _ _ _ z1 zs E1 E2 h1 t =>
      cases t with
      | cons _ _ _ z2 zs2 E3 E4 h2 t2 =>
        cases t2
        cases h1 with
        | v _ _ _ _ v1 => cases h2 with | v _ _ _ _ v2 => exact ⟨z1, z2, rfl, v1, v2⟩
  have str : ∀ {s : List UInt8} {z : Value}, (∀ η h, Vr w D0 η h (.d .str s) z) → ∃ b : ByteArray, b.data.toList = s ∧ z = .string b := fun {s z} v => by
    cases v (fun _ => .box 0) [] with
    | d _ _ _ _ hr => obtain ⟨b, h1, h2⟩ := hr; exact ⟨b, h1, by simpa using h2⟩
  obtain ⟨b1, e1, rfl⟩ := str v1
  obtain ⟨b2, e2, rfl⟩ := str v2
  obtain rfl : args = #[.string b1, .string b2] := Array.ext' ha
  have hs : ∀ b : ByteArray, b.size = b.data.toList.length := fun b => by rw [Array.length_toList]; rfl
  refine (Any.strings_Trim_laid Tryd.lays160 (by kernel_rfl) b1 b2 w (by rw [hs, e1]; exact hc.1) (by rw [hs, e2]; exact hc.2.1) (fun j b hb => by
    rw [e2] at hb
    have := List.all_eq_true.1 hc.2.2 b (List.mem_of_getElem? hb)
    exact of_decide_eq_true this)).mono fun e w' ⟨he, bel⟩ => ?_
  subst he
  refine ⟨⟨D0, [_], [], [], rfl, rfl, rfl, ?_, fun _ h => h, fun _ h => .inl h, fun b h => Nat.lt_of_lt_of_le (hk b (hD b h)) bel.size, fun e he => by simp at he, .nil⟩, bel.os, bel.tape, bel.output, bel.size, fun b hb => bel.block b (hk b hb)⟩
  rw [e1, e2]
  exact ⟨_, rfl, .inr ⟨rfl, ⟨_, by rw [← trim_eq], rfl⟩, rfl⟩⟩
theorem ext : ExtOk Tryd.prog A X := by
  intro f vs x hon h
  have hon : (Nat.beq f 11 || Nat.beq f 24) = true := hon
  simp only [Bool.or_eq_true] at hon
  rcases hon with (hon) | hon
  · obtain rfl := Nat.eq_of_beq_eq_true hon
    exact ⟨⟨Tryd.f11, Tryd.func11, by kernel_rfl, by kernel_rfl⟩, ext11 vs x h⟩
  · obtain rfl := Nat.eq_of_beq_eq_true hon
    exact ⟨⟨Tryd.f24, Tryd.func24, by kernel_rfl, by kernel_rfl⟩, ext24 vs x h⟩
end Go.Proofs.YtiiefhpoomliaaaDoor.XT
