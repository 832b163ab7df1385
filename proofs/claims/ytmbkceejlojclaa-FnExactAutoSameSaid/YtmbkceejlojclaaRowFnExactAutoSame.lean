/- The row of FnExactAutoSame: for every two automata the call returns true, and they read afterwards as before. Conditions: none. -/
import Derived.Test.YtmbkceejlojclaaRows
import Derived.Test.YtmbkceejlojclaaQFnExactAutoSamex5
import Derived.Test.YtmbkceejlojclaaPureFnExactAutoSame
import Derived.Test.YtmbkceejlojclaaLift
import Derived.WalkKit
import Derived.ProofKit
import Derived.OpenShut
import Derived.ShutString
import Derived.ChangeOld
import Derived.Below
import Derived.SizedLaws
namespace Go.Proofs.Ytmbkceejlojclaa.fnExactAutoSame
open Go.ChangeShapes Go.WideShapes Go.ChangeAt Go.RowKit Go.Proofs.YtmbkceejlojclaaW.PrintWords
set_option linter.unusedVariables false
theorem own : ownKnob Try.prog.godebug = none := by kernel_rfl
theorem laidOut : laidOutB Try.prog = true := by kernel_rfl
set_option linter.constructorNameAsVariable false
set_option maxRecDepth 100000 in
/-- An automaton's value, its cells, and the rows as the walk wants them. -/
theorem auto_in {H : Type} {enc : TypeId × Value → H} {W : World} {base : Nat} {sp : Nat → Bool} {held : Bool} {r : Reach} {b0 : Nat} {v : Value} {d : DataW H} {p : List MemPlace}
    (hv : Value.okWide Try.prog W r b0 37 v) (h : DataW.Trod enc Try.prog W base sp held 37 v d p) :
    ∃ (b : Int) (A1 : Option Addr) (c1 : Nat) (es : List Bool) (A2 : Option Addr) (c2 : Nat) (gs : List (List Int)), v = .agg #[.int .i64 b, .slice A1 es.length c1, .slice A2 gs.length c2] ∧
      Kd.C Kd.bool W A1 es.length es ∧ es.length ≤ c1 ∧ Kd.C (Kd.slice 3 (Kd.int .i64)) W A2 gs.length gs ∧ gs.length ≤ c2 ∧ es.length ≤ 9223372036854775807 ∧ DFnExactAutoSame.Rows2 gs := by
  obtain ⟨cs, rfl, hcs⟩ := okWide_struct Try.underlying37 hv
  obtain ⟨fuel, hf⟩ := h
  obtain ⟨a, b, c, n, y0, y1, y2, hcells, h0, h1, h2⟩ := Lift.lift_struct3 Try.underlying37 rfl rfl rfl (by kernel_rfl) (by kernel_rfl) (by kernel_rfl) (by kernel_rfl) hf
  obtain ⟨x, hx, _⟩ := DataW.trod_int Try.underlying3 h0
  obtain ⟨A1, c1, es, hb, hl1, hC1⟩ := Lift.lift_slice Kd.bool Try.underlying34 (by kernel_rfl) (Lift.el_bool Try.underlying4) h1
  obtain ⟨A2, c2, gs, hc, hl2, hC2⟩ := Lift.lift_slice (Kd.slice 3 (Kd.int .i64)) Try.underlying35 (by kernel_rfl) (Lift.el_slice (Kd.int .i64) Try.underlying85 (by kernel_rfl) (Lift.el_int Try.underlying3)) h2
  simp only [List.cons.injEq, and_true] at hx hb hc
  subst hx hb hc
  have hcs' : cs.toList = [.int .i64 x, .slice A1 es.length c1, .slice A2 gs.length c2] := hcells
  refine ⟨x, A1, c1, es, A2, c2, gs, ?_, hC1, hl1, hC2, hl2, Kd.C_max hC1, Kd.C_max hC2, Lift.rows_len hC2⟩
  congr 1
  cases cs
  simp only at hcs'
  rw [hcs']
set_option maxRecDepth 100000 in
theorem lifted (os : Os) (started : os.Started) (H : Type) (enc : TypeId × Value → H) :
    ReturnsInHanded {} Try.checked os 5 .any (Rows.fnExactAutoSameSpec.pre6 enc Try.prog Try.f5 Rows.fnExactAutoSameRow.domain false) (Rows.fnExactAutoSameSpec.post enc Try.prog Try.f5 false true false false) := by
  refine returnsInHanded_of_change_sized (C := Try.checked) own started (by kernel_rfl) Try.func5
    (ChangeSpec.witness6 (enc := enc) (C := Try.checked) false ⟨#[], #[.agg #[.int .i64 0, .slice none 0 0, .slice none 0 0], .agg #[.int .i64 0, .slice none 0 0, .slice none 0 0]], []⟩ 8 (by kernel_rfl) (by kernel_rfl) (by kernel_rfl) (by kernel_rfl)) ?_
  intro W base args ds gs before hval0 hW hcnd hsz0 _
  have hval : ∀ (j : Nat) t v, Try.f5.params[j]? = some t → args[j]? = some v → Value.okWide Try.prog W .any base t v := hval0
  have hW' := hW
  obtain ⟨p, q, hA0, hV, rfl, hfz, hnd⟩ := hW
  have hA : DataW.TrodAll enc Try.prog W 0 (fun _ => true) true Try.f5.params.toList args.toList ds p := hA0
  rw [Try.params5] at hA hval
  obtain ⟨v0, vs0, d0, ds0, p0, q0, hargs, rfl, rfl, h0, r0⟩ := trodAll_cons hA
  obtain ⟨v1, vs1, d1, ds1, p1, q1, rfl, rfl, rfl, h1, r1⟩ := trodAll_cons r0
  obtain ⟨rfl, rfl, rfl⟩ := trodAll_nil r1
  obtain rfl : args = #[v0, v1] := by cases args; simp_all
  obtain ⟨rfl, rfl⟩ := trodVars_none hV
  obtain ⟨b0, A1, c1, es, A2, c2, g2, rfl, hC1, hl1, hC2, hl2, hm1, hm2⟩ := auto_in (hval 0 37 v0 rfl rfl) h0
  obtain ⟨b0', A1', c1', es', A2', c2', g2', rfl, hC1', hl1', hC2', hl2', hm1', hm2'⟩ := auto_in (hval 1 37 v1 rfl rfl) h1
  have k0 := h0
  have k1 := h1
  have lt0 : ∀ x ∈ p0, x.block < W.heap.size := by obtain ⟨m, hm⟩ := k0; exact DataW.trod_lt m _ _ _ hm
  have lt1 : ∀ x ∈ p1, x.block < W.heap.size := by obtain ⟨m, hm⟩ := k1; exact DataW.trod_lt m _ _ _ hm
  obtain ⟨k, hk⟩ := Pure.FnExactAutoSame b0 es g2 b0' es' g2' hm1 hm2 hm1' hm2'
  refine (PFnExactAutoSame.laws_FnExactAutoSame.calls k b0 A1 c1 es A2 c2 g2 b0' A1' c1' es' A2' c2' g2' true W hC1 hl1 hC2 hl2 hC1' hl1' hC2' hl2' hk rfl).mono fun e W' ⟨he, bel⟩ => ?_
  subst he
  exact ⟨_, rfl, _, _, _, [], _, [], hW', trodAll_mk1 (shut_bool Try.underlying4 _), (trodAll_cons_mk (Below.trod laidOut (by kernel_rfl) (of_decide_eq_true (by kernel_rfl)) k0 bel lt0) (trodAll_cons_mk (Below.trod laidOut (by kernel_rfl) (of_decide_eq_true (by kernel_rfl)) k1 bel lt1) trodAll_mk0)), rfl, bel.frame _, fun h => by cases h⟩
theorem over : Rows.fnExactAutoSameRow.holds Try.pinned (OpenSpec.ofChange Rows.fnExactAutoSameSpec) :=
  OpenClaim.holds_of_wide 5 Try.f5 rfl rfl rfl rfl rfl rfl rfl ⟨rfl, rfl, rfl, rfl, rfl⟩ rfl rfl rfl rfl rfl (by kernel_rfl) Try.func5 (by kernel_rfl)
    (of_decide_eq_true (by kernel_rfl)) (by unfold Func.isWrapper; first | (rw [if_pos (by decide +kernel)]; kernel_rfl) | (rw [if_neg (by decide +kernel)]; exact ⟨rfl, rfl⟩))
    (fun os started H enc _ => lifted os started H enc)
theorem proved : Rows.FnExactAutoSameSaid := over
#print axioms proved
end Go.Proofs.Ytmbkceejlojclaa.fnExactAutoSame
namespace Go.Proofs.Ytmbkceejlojclaa
/-- The row, under a short name, for the claim. -/
theorem fnExactAutoSame_holds : Rows.FnExactAutoSameSaid := fnExactAutoSame.proved
end Go.Proofs.Ytmbkceejlojclaa
