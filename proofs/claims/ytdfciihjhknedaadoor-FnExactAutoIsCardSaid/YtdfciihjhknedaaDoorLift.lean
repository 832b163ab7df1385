/- Struct, slice and scalar arguments out of a world's reading: the cells, and the rows as the walks want them (Kd.C). -/
import Derived.Test.YtdfciihjhknedaaDoorWMore
import Derived.ChangeShapes
import Derived.ChangeArms
import Derived.DataElems
import Derived.OpenShut
import Derived.ChangeOld
import Derived.RowKit
namespace Go.Proofs.YtdfciihjhknedaaDoor.Lift
open Go.RowKit Go.Proofs.YtdfciihjhknedaaDoorW.PrintWords Go.Proofs.YtdfciihjhknedaaDoorW.PrintLast Go.Proofs.YtdfciihjhknedaaDoorW.PrintMore
set_option linter.unusedVariables false

theorem list_of {α : Type} (Q : Nat → α → Prop) : ∀ n : Nat, (∀ i, i < n → ∃ p, Q i p) → ∃ xs : List α, xs.length = n ∧ ∀ i p, xs[i]? = some p → Q i p
  | 0, _ => ⟨[], rfl, by simp⟩
  | n + 1, h => by
    obtain ⟨xs, hl, hq⟩ := list_of Q n (fun i hi => h i (by omega))
    obtain ⟨p, hp⟩ := h n (by omega)
    refine ⟨xs ++ [p], by simp [hl], fun i q hi => ?_⟩
    by_cases hin : i < n
    · rw [List.getElem?_append_left (by omega)] at hi
      exact hq i q hi
    · rw [List.getElem?_append_right (by omega)] at hi
      have hlt : i - xs.length < 1 := by
        have := (List.getElem?_eq_some_iff.1 hi).1
        simpa using this
      have e : i - xs.length = 0 := by omega
      rw [e] at hi
      simp at hi
      subst hi
      have : i = n := by omega
      subst this
      exact hp

section
variable {H : Type} {enc : TypeId × Value → H} {P : Program} {w : World} {base : Nat} {sp : Nat → Bool} {held : Bool}

theorem lift_slice {α : Type} (d : Kd α) {t e : TypeId} {fuel : Nat} {cs : List Value} {x : DataW H × List MemPlace} (ht : P.underlying t = some (.slice e)) (hc : P.cellsOf e = d.sz)
    (hel : ∀ n cs x, DataW.trod enc P w base sp held n e cs = some x → ∃ p, d.K w p cs)
    (h : DataW.trod enc P w base sp held fuel t cs = some x) : ∃ A c xs, cs = [.slice A xs.length c] ∧ xs.length ≤ c ∧ d.C w A xs.length xs := by
  rcases DataW.trod_slice ht h with ⟨rfl, _⟩ | ⟨a, len, cap, elems, rest, n, _, rfl, _, hb, hl, hm, hlen, hel', _, _⟩
  · exact ⟨none, 0, [], rfl, Nat.le_refl _, Kd.C_nil d w⟩
  · obtain ⟨xs, hxl, hxs⟩ := list_of (fun i p => ∃ c, c.length = d.sz ∧ d.K w p c ∧ ∀ j u, c[j]? = some u → w.cell? (a.add (i * d.sz + j)) = some u) len (fun i hi => by
      have h1 := hel' i hi
      rw [List.getElem?_eq_getElem (show i < elems.length by omega)] at h1
      simp only [Option.bind_eq_some_iff] at h1
      obtain ⟨c, hcc, hy⟩ := h1
      obtain ⟨p, hp⟩ := hel n c _ hy
      obtain ⟨_, hlc, hcell⟩ := World.cells?_some hcc
      rw [hc] at hlc hcell
      refine ⟨p, c, hlc, hp, fun j u hu => ?_⟩
      have hj : j < d.sz := by rw [← hlc]; exact (List.getElem?_eq_some_iff.1 hu).1
      have h2 := hcell j hj
      rw [Addr.add_add, hu] at h2
      exact h2)
    subst hxl
    have hmm : maxLen ≤ 9223372036854775807 := by decide
    exact ⟨some a, cap, xs, rfl, hl, rfl, by omega, fun _ => ⟨a, rfl, hxs⟩⟩

theorem el_int {t : TypeId} {k : IntKind} (ht : P.underlying t = some (.int k)) (n : Nat) (cs : List Value) (x : DataW H × List MemPlace) (h : DataW.trod enc P w base sp held n t cs = some x) : ∃ p, (Kd.int k).K w p cs := by
  obtain ⟨p, rfl, _⟩ := DataW.trod_int ht h
  exact ⟨p, rfl⟩
theorem el_bool {t : TypeId} (ht : P.underlying t = some .bool) (n : Nat) (cs : List Value) (x : DataW H × List MemPlace) (h : DataW.trod enc P w base sp held n t cs = some x) : ∃ p, Kd.bool.K w p cs := by
  obtain ⟨p, rfl, _⟩ := DataW.trod_bool ht h
  exact ⟨p, rfl⟩
theorem el_string {t : TypeId} (ht : P.underlying t = some .string) (n : Nat) (cs : List Value) (x : DataW H × List MemPlace) (h : DataW.trod enc P w base sp held n t cs = some x) : ∃ p, Kd.string.K w p cs := by
  obtain ⟨p, rfl, _⟩ := DataW.trod_string ht h
  exact ⟨p, rfl⟩
theorem el_slice {α : Type} (d : Kd α) {t e : TypeId} {E : Nat} (ht : P.underlying t = some (.slice e)) (hc : P.cellsOf e = d.sz) (hel : ∀ n cs x, DataW.trod enc P w base sp held n e cs = some x → ∃ p, d.K w p cs)
    (n : Nat) (cs : List Value) (x : DataW H × List MemPlace) (h : DataW.trod enc P w base sp held n t cs = some x) : ∃ p, (Kd.slice E d).K w p cs := by
  obtain ⟨A, c, xs, rfl, hl, hC⟩ := lift_slice d ht hc hel h
  exact ⟨xs, A, c, rfl, hl, hC⟩

/-- A struct of three one-cell fields: its three cells, each with its reading. -/
theorem lift_struct3 {t : TypeId} {f0 f1 f2 : Field} {fuel : Nat} {cs : List Value} {x : DataW H × List MemPlace} (ht : P.underlying t = some (.struct #[f0, f1, f2]))
    (o0 : f0.offset = 0) (o1 : f1.offset = 1) (o2 : f2.offset = 2) (c0 : P.cellsOf f0.type = 1) (c1 : P.cellsOf f1.type = 1) (c2 : P.cellsOf f2.type = 1) (ct : P.cellsOf t = 3)
    (h : DataW.trod enc P w base sp held fuel t cs = some x) :
    ∃ a b c n y0 y1 y2, cs = [a, b, c] ∧ DataW.trod enc P w base sp held n f0.type [a] = some y0 ∧ DataW.trod enc P w base sp held n f1.type [b] = some y1 ∧ DataW.trod enc P w base sp held n f2.type [c] = some y2 := by
  obtain ⟨xs, n, _, _, hl, hx, hf⟩ := DataW.trod_struct ht h
  rw [ct] at hl
  obtain ⟨a, b, c, rfl⟩ : ∃ a b c, cs = [a, b, c] := by
    match cs, hl with
    | [a, b, c], _ => exact ⟨a, b, c, rfl⟩
  obtain ⟨y0, y1, y2, rfl⟩ : ∃ a b c, xs = [a, b, c] := by
    match xs, hx with
    | [a, b, c], _ => exact ⟨a, b, c, rfl⟩
  have h0 := hf 0 f0 rfl
  have h1 := hf 1 f1 rfl
  have h2 := hf 2 f2 rfl
  rw [o0, c0] at h0
  rw [o1, c1] at h1
  rw [o2, c2] at h2
  exact ⟨a, b, c, n, y0, y1, y2, rfl, h0, h1, h2⟩
/-- A struct of two one-cell fields. -/
theorem lift_struct2 {t : TypeId} {f0 f1 : Field} {fuel : Nat} {cs : List Value} {x : DataW H × List MemPlace} (ht : P.underlying t = some (.struct #[f0, f1]))
    (o0 : f0.offset = 0) (o1 : f1.offset = 1) (c0 : P.cellsOf f0.type = 1) (c1 : P.cellsOf f1.type = 1) (ct : P.cellsOf t = 2)
    (h : DataW.trod enc P w base sp held fuel t cs = some x) :
    ∃ a b n y0 y1, cs = [a, b] ∧ DataW.trod enc P w base sp held n f0.type [a] = some y0 ∧ DataW.trod enc P w base sp held n f1.type [b] = some y1 := by
  obtain ⟨xs, n, _, _, hl, hx, hf⟩ := DataW.trod_struct ht h
  rw [ct] at hl
  obtain ⟨a, b, rfl⟩ : ∃ a b, cs = [a, b] := by
    match cs, hl with
    | [a, b], _ => exact ⟨a, b, rfl⟩
  obtain ⟨y0, y1, rfl⟩ : ∃ a b, xs = [a, b] := by
    match xs, hx with
    | [a, b], _ => exact ⟨a, b, rfl⟩
  have h0 := hf 0 f0 rfl
  have h1 := hf 1 f1 rfl
  rw [o0, c0] at h0
  rw [o1, c1] at h1
  exact ⟨a, b, n, y0, y1, rfl, h0, h1⟩
end
/-- The rows of a row of rows are no longer than Go's slices are. -/
theorem rows_len {α : Type} {d : Kd α} {E : Nat} {w : World} {A : Option Addr} {n : Nat} {xs : List (List α)} (h : (Kd.slice E d).C w A n xs) : ∀ x ∈ xs, x.length ≤ 9223372036854775807 := by
  intro x hx
  obtain ⟨i, hi, rfl⟩ := List.getElem_of_mem hx
  obtain ⟨h1, h2, h3⟩ := h
  obtain ⟨ad, _, hc⟩ := h3 (by omega)
  obtain ⟨c, _, ⟨A', c', _, _, hC⟩, _⟩ := hc i _ (List.getElem?_eq_getElem hi)
  exact Kd.C_max hC
end Go.Proofs.YtdfciihjhknedaaDoor.Lift
