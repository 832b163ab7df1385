/- Arguments as they came, told to the engine: strings, numbers, rows, structs. -/
import Derived.Test.YtiiefhpoomliaaaDoorK4
import Derived.ChangeShapes
import Derived.ChangeArms
import Derived.DataElems
import Derived.OpenShut
import Derived.ChangeOld
import Derived.RowKit
namespace Go.Proofs.YtiiefhpoomliaaaDoor.LiftE
open Go Go.RowKit Go.ChangeShapes Go.Proofs.YtiiefhpoomliaaaDoor.Eng
set_option linter.unusedVariables false
set_option autoImplicit false
/-- Lengths that memory holds. -/
def Sz : (t : Ty) → t.den → Prop
  | .int k, n => (Lit.int k n).wf = true
  | .str, s => List.length s ≤ maxLen
  | .sl t, xs => List.length xs ≤ maxLen ∧ ∀ x ∈ xs, Sz t x
  | .pair a b, x => Sz a x.1 ∧ Sz b x.2
  | _, _ => True
section
variable {H : Type} {enc : TypeId × Value → H} {P : Program} {w : World} {base : Nat} {sp : Nat → Bool} {held : Bool}
abbrev All (w : World) : Bs := fun b => b < w.heap.size
def Told (enc : TypeId × Value → H) (P : Program) (w : World) (base : Nat) (sp : Nat → Bool) (held : Bool) (e : TypeId) (t : Ty) : Prop :=
  ∀ n cs x, DataW.trod enc P w base sp held n e cs = some x → ∃ p : t.den, Rz w (All w) t p cs ∧ Sz t p
theorem told_int {t : TypeId} {k : IntKind} (ht : P.underlying t = some (.int k)) : Told enc P w base sp held t (.int k) := fun n cs x h => by
  obtain ⟨p, rfl, _, hw⟩ := DataW.trod_int ht h
  exact ⟨p, rfl, hw⟩
theorem told_bool {t : TypeId} (ht : P.underlying t = some .bool) : Told enc P w base sp held t .bool := fun n cs x h => by
  obtain ⟨p, rfl, _⟩ := DataW.trod_bool ht h
  exact ⟨p, rfl, trivial⟩
theorem told_str {t : TypeId} (ht : P.underlying t = some .string) : Told enc P w base sp held t .str := fun n cs x h => by
  obtain ⟨s, rfl, _, hs⟩ := DataW.trod_string ht h
  exact ⟨s.data.toList, ⟨s, rfl, rfl⟩, by show s.data.toList.length ≤ maxLen; rw [Array.length_toList]; exact hs⟩
theorem list_of {α : Type} (Q : Nat → α → Prop) : ∀ n : Nat, (∀ i, i < n → ∃ p, Q i p) → ∃ xs : List α, xs.length = n ∧ ∀ i p, xs[i]? = some p → Q i p
  | 0, _ => ⟨[], rfl, by simp⟩
  | n + 1, h => by
    obtain ⟨xs, hl, hq⟩ := list_of Q n (fun i hi => h i (by omega))
    obtain ⟨p, hp⟩ := h n (by omega)
    refine ⟨xs ++ [p], by simp [hl], fun i q hi => ?_⟩
    by_cases hin : i < n
    · rw [List.getElem?_append_left (by omega)] at hi
      exact hq i q hi
    · rw [List.getElem?_append_right (by omega)] at hi
      have hlt : i - xs.length < 1 := by
        have := (List.getElem?_eq_some_iff.1 hi).1
        simpa using this
      have e : i - xs.length = 0 := by omega
      rw [e] at hi
      simp at hi
      subst hi
      have : i = n := by omega
      subst this
      exact hp
theorem told_slice {T e : TypeId} {t : Ty} (ht : P.underlying T = some (.slice e)) (hc : P.cellsOf e = t.size) (h0 : 0 < t.size) (hte : t.isEnt = false) (hel : Told enc P w base sp held e t) : Told enc P w base sp held T (.sl t) := fun n cs x h => by
  rcases DataW.trod_slice ht h with ⟨rfl, _⟩ | ⟨a, len, cap, elems, rest, m, _, rfl, _, hb, hl, hm, hlen, hel', _, _⟩
  · exact ⟨[], (Rz.sl hte).2 ⟨none, 0, rfl, Nat.le_refl _, fun h => absurd h (Nat.lt_irrefl _)⟩, Nat.zero_le _, fun x hx => by cases hx⟩
  · obtain ⟨xs, hxl, hxs⟩ := list_of (fun i (p : t.den) => Sz t p ∧ ∃ c, c.length = t.size ∧ Rz w (All w) t p c ∧ ∀ j, j < t.size → w.cell? ((a.add (i * t.size)).add j) = c[j]?) len (fun i hi => by
      have h1 := hel' i hi
      rw [List.getElem?_eq_getElem (show i < elems.length by omega)] at h1
      simp only [Option.bind_eq_some_iff] at h1
      obtain ⟨c, hcc, hy⟩ := h1
      obtain ⟨p, hp, hq⟩ := hel m c _ hy
      obtain ⟨_, hlc, hcell⟩ := World.cells?_some hcc
      rw [hc] at hlc hcell
      exact ⟨p, hq, c, hlc, hp, fun j hj => hcell j hj⟩)
    subst hxl
    refine ⟨xs, (Rz.sl hte).2 ⟨some a, cap, rfl, hl, fun hpos => ?_⟩, by show xs.length ≤ maxLen; omega, fun x hx => ?_⟩
    · obtain ⟨_, c0, hc0, _, hcell0⟩ := hxs 0 _ (List.getElem?_eq_getElem hpos)
      have h1 := hcell0 0 h0
      rw [List.getElem?_eq_getElem (show 0 < c0.length by omega)] at h1
      obtain ⟨k1, k2⟩ := cell_lt h1
      have ex : a = ⟨a.block, a.off, none⟩ := by
        cases a with
        | mk b o ix => cases ix with
          | none => rfl
          | some y => simp [Addr.add] at k2
      refine ⟨a.block, a.off, by rw [← ex], ?_, fun i hi => ?_⟩
      · rw [ex, add_none, add_none] at k1; exact k1
      · obtain ⟨_, c, hcl, hR, hcell⟩ := hxs i _ (List.getElem?_eq_getElem hi)
        refine ⟨c, hcl, ?_, fun j hj => ?_⟩
        · have : rd xs i = xs[i] := by simp [rd, List.getD, hi]
          show Rz w (All w) t (rd xs i) c
          rw [this]; exact hR
        · have h2 := hcell j hj
          rw [ex, add_none, add_none] at h2
          exact h2
    · obtain ⟨i, hi, rfl⟩ := List.getElem_of_mem hx
      exact (hxs i _ (List.getElem?_eq_getElem hi)).1
theorem told_pair {T : TypeId} {f0 f1 : Field} {t0 t1 : Ty} (ht : P.underlying T = some (.struct #[f0, f1])) (o0 : f0.offset = 0) (o1 : f1.offset = 1) (c0 : P.cellsOf f0.type = 1) (c1 : P.cellsOf f1.type = 1) (ct : P.cellsOf T = 2)
    (h0 : Told enc P w base sp held f0.type t0) (h1 : Told enc P w base sp held f1.type t1) : Told enc P w base sp held T (.pair t0 t1) := fun n cs x h => by
  obtain ⟨xs, n, _, _, hl, hx, hf⟩ := DataW.trod_struct ht h
  rw [ct] at hl
  obtain ⟨a, b, rfl⟩ : ∃ a b, cs = [a, b] := by
    match cs, hl with
    | [a, b], _ => exact ⟨a, b, rfl⟩
  obtain ⟨y0, y1, rfl⟩ : ∃ a b, xs = [a, b] := by
    match xs, hx with
    | [a, b], _ => exact ⟨a, b, rfl⟩
  have k0 := hf 0 f0 rfl
  have k1 := hf 1 f1 rfl
  rw [o0, c0] at k0
  rw [o1, c1] at k1
  obtain ⟨p0, r0, q0⟩ := h0 n [a] y0 k0
  obtain ⟨p1, r1, q1⟩ := h1 n [b] y1 k1
  exact ⟨(p0, p1), ⟨[a], [b], rfl, r0, r1⟩, q0, q1⟩
theorem told_triple {T : TypeId} {f0 f1 f2 : Field} {t0 t1 t2 : Ty} (ht : P.underlying T = some (.struct #[f0, f1, f2])) (o0 : f0.offset = 0) (o1 : f1.offset = 1) (o2 : f2.offset = 2) (c0 : P.cellsOf f0.type = 1) (c1 : P.cellsOf f1.type = 1) (c2 : P.cellsOf f2.type = 1) (ct : P.cellsOf T = 3)
    (h0 : Told enc P w base sp held f0.type t0) (h1 : Told enc P w base sp held f1.type t1) (h2 : Told enc P w base sp held f2.type t2) : Told enc P w base sp held T (.pair t0 (.pair t1 t2)) := fun n cs x h => by
  obtain ⟨xs, n, _, _, hl, hx, hf⟩ := DataW.trod_struct ht h
  rw [ct] at hl
  obtain ⟨a, b, c, rfl⟩ : ∃ a b c, cs = [a, b, c] := by
    match cs, hl with
    | [a, b, c], _ => exact ⟨a, b, c, rfl⟩
  obtain ⟨y0, y1, y2, rfl⟩ : ∃ a b c, xs = [a, b, c] := by
    match xs, hx with
    | [a, b, c], _ => exact ⟨a, b, c, rfl⟩
  have k0 := hf 0 f0 rfl
  have k1 := hf 1 f1 rfl
  have k2 := hf 2 f2 rfl
  rw [o0, c0] at k0
  rw [o1, c1] at k1
  rw [o2, c2] at k2
  obtain ⟨p0, r0, q0⟩ := h0 n [a] y0 k0
  obtain ⟨p1, r1, q1⟩ := h1 n [b] y1 k1
  obtain ⟨p2, r2, q2⟩ := h2 n [c] y2 k2
  exact ⟨(p0, p1, p2), ⟨[a], [b, c], rfl, r0, [b], [c], rfl, r1, r2⟩, q0, q1, q2⟩
/-- A struct among the arguments. -/
theorem sv_agg {D : Bs} {t : Ty} {x : t.den} {cs : Array Value} (ha : t.agg = true) (h : Rz w D t x cs.toList) : SV w D (.agg (leaves t x)) (.agg cs) := by
  refine ⟨fun _ _ _ e => (by cases e), fun _ e => (by cases e), fun η hp => ?_⟩
  have := val_ok (η := η) (h := hp) t x cs.toList h
  unfold val at this
  rw [ha] at this
  exact this
end
end Go.Proofs.YtiiefhpoomliaaaDoor.LiftE
