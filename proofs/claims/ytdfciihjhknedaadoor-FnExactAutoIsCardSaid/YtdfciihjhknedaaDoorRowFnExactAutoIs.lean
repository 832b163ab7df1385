/- The row of FnExactAutoIs and its tied card: for every input the call returns true, and each argument reads afterwards as before. Conditions: the library's listed tables hold what its text lays. Out of the kit's print. -/
/- The row of FnExactAutoIs: for every input the call returns true, and each argument reads afterwards as before. Conditions: none. -/
import Derived.Test.YtdfciihjhknedaaDoorRows
import Derived.Test.YtdfciihjhknedaaDoorCards
import Derived.Test.YtdfciihjhknedaaDoorTie
import Derived.Lay
import Derived.LaidOnce
import Derived.SevenTiedAt
import Derived.Test.YtdfciihjhknedaaDoorQFnExactAutoIsx5
import Derived.Test.YtdfciihjhknedaaDoorPureFnExactAutoIs
import Derived.Test.YtdfciihjhknedaaDoorLift
import Derived.WalkKit
import Derived.ProofKit
import Derived.OpenShut
import Derived.ShutString
import Derived.ChangeOld
import Derived.Below
import Derived.SizedLaws
namespace Go.Proofs.YtdfciihjhknedaaDoor.fnExactAutoIs
open Go.ChangeShapes Go.WideShapes Go.ChangeAt Go.RowKit Go.Proofs.YtdfciihjhknedaaDoorW.PrintWords
open Go.ChangeMaps (open_string shut_string)
set_option linter.unusedVariables false
theorem own : ownKnob Tryd.prog.godebug = none := by kernel_rfl
theorem laidOut : laidOutB Tryd.prog = true := by kernel_rfl
set_option linter.constructorNameAsVariable false
set_option maxRecDepth 100000 in
/-- An automaton's value, its cells, and the rows as the walk wants them. -/
theorem auto_in {H : Type} {enc : TypeId × Value → H} {W : World} {base : Nat} {sp : Nat → Bool} {held : Bool} {r : Reach} {b0 : Nat} {v : Value} {d : DataW H} {p : List MemPlace}
    (hv : Value.okWide Tryd.prog W r b0 25 v) (h : DataW.Trod enc Tryd.prog W base sp held 25 v d p) :
    ∃ (b : Int) (A1 : Option Addr) (c1 : Nat) (es : List Bool) (A2 : Option Addr) (c2 : Nat) (gs : List (List Int)), v = .agg #[.int .i64 b, .slice A1 es.length c1, .slice A2 gs.length c2] ∧
      Kd.C Kd.bool W A1 es.length es ∧ es.length ≤ c1 ∧ Kd.C (Kd.slice 3 (Kd.int .i64)) W A2 gs.length gs ∧ gs.length ≤ c2 ∧ es.length ≤ 9223372036854775807 ∧ DFnExactAutoIs.Rows2 gs := by
  obtain ⟨cs, rfl, hcs⟩ := okWide_struct Tryd.underlying25 hv
  obtain ⟨fuel, hf⟩ := h
  obtain ⟨a, b, c, n, y0, y1, y2, hcells, h0, h1, h2⟩ := Lift.lift_struct3 Tryd.underlying25 rfl rfl rfl (by kernel_rfl) (by kernel_rfl) (by kernel_rfl) (by kernel_rfl) hf
  obtain ⟨x, hx, _⟩ := DataW.trod_int Tryd.underlying3 h0
  obtain ⟨A1, c1, es, hb, hl1, hC1⟩ := Lift.lift_slice Kd.bool Tryd.underlying22 (by kernel_rfl) (Lift.el_bool Tryd.underlying4) h1
  obtain ⟨A2, c2, gs, hc, hl2, hC2⟩ := Lift.lift_slice (Kd.slice 3 (Kd.int .i64)) Tryd.underlying23 (by kernel_rfl) (Lift.el_slice (Kd.int .i64) Tryd.underlying66 (by kernel_rfl) (Lift.el_int Tryd.underlying3)) h2
  simp only [List.cons.injEq, and_true] at hx hb hc
  subst hx hb hc
  have hcs' : cs.toList = [.int .i64 x, .slice A1 es.length c1, .slice A2 gs.length c2] := hcells
  refine ⟨x, A1, c1, es, A2, c2, gs, ?_, hC1, hl1, hC2, hl2, Kd.C_max hC1, Kd.C_max hC2, Lift.rows_len hC2⟩
  congr 1
  cases cs
  simp only at hcs'
  rw [hcs']
set_option maxRecDepth 100000 in
theorem lifted (os : Os) (started : os.Started) (H : Type) (enc : TypeId × Value → H) :
    ReturnsInHanded {} Tryd.checked os 3 .any (fun w args => (Rows.fnExactAutoIsSpec.pre enc Tryd.prog Tryd.f3 [] false w args ∧ laidMetH Tryd.prog Rows.fnExactAutoIsRow.laid w) ∧ sizedMet enc Tryd.prog Tryd.f3 (OpenSpec.ofChange Rows.fnExactAutoIsSpec) false w args) (Rows.fnExactAutoIsSpec.post enc Tryd.prog Tryd.f3 false true false false) := by
  refine returnsInHanded_of_change_and (C := Tryd.checked) (X := fun w _ => laidMetH Tryd.prog Rows.fnExactAutoIsRow.laid w) (fun _ _ _ hh h => h.of_heap hh) own started (by kernel_rfl) Tryd.func3
    (ChangeSpec.witness_shaped (enc := enc) (C := Tryd.checked) (os := os) (X := fun w _ => laidMetH Tryd.prog Rows.fnExactAutoIsRow.laid w) false (World.laidAll Tryd.prog os Rows.fnExactAutoIsRow.laid) #[.agg #[.int .i64 0, .slice none 0 0, .slice none 0 0], .string ByteArray.empty] 8 (World.laidAll_os _ _ _)
      (World.shaped_of_ZipB (by kernel_rfl) (by kernel_rfl)) (by kernel_rfl) (by kernel_rfl) (by kernel_rfl)
      (by rw [MakeChecks.laidMetH_plain _ _ _ (by kernel_rfl)]; exact laidMet_laidAll _ (by kernel_rfl) (by kernel_rfl))) ?_
  intro W base args ds gs before hval0 hW hcnd hsz0 _hL _
  have hval : ∀ (j : Nat) t v, Tryd.f3.params[j]? = some t → args[j]? = some v → Value.okWide Tryd.prog W .any base t v := hval0
  have hW' := hW
  obtain ⟨p, q, hA0, hV, rfl, hfz, hnd⟩ := hW
  have hA : DataW.TrodAll enc Tryd.prog W 0 (fun _ => true) true Tryd.f3.params.toList args.toList ds p := hA0
  rw [Tryd.params3] at hA hval
  obtain ⟨v0, vs0, d0, ds0, p0, q0, hargs, rfl, rfl, h0, r0⟩ := trodAll_cons hA
  obtain ⟨v1, vs1, d1, ds1, p1, q1, rfl, rfl, rfl, h1, r1⟩ := trodAll_cons r0
  obtain ⟨rfl, rfl, rfl⟩ := trodAll_nil r1
  obtain rfl : args = #[v0, v1] := by cases args; simp_all
  obtain ⟨rfl, rfl⟩ := trodVars_none hV
  have k0 := h0
  have k1 := h1
  obtain ⟨b0, A0_1, c0_1, es0, A0_2, c0_2, gs0, rfl, hC0_1, hl0_1, hC0_2, hl0_2, hm0_1, hm0_2⟩ := auto_in (hval 0 25 v0 rfl rfl) h0
  obtain ⟨s1, rfl, _⟩ := open_string Tryd.underlying9 (hval 1 9 v1 rfl rfl) h1
  have lt0 : ∀ x ∈ p0, x.block < W.heap.size := by obtain ⟨m, hm⟩ := k0; exact DataW.trod_lt m _ _ _ hm
  have lt1 : ∀ x ∈ p1, x.block < W.heap.size := by obtain ⟨m, hm⟩ := k1; exact DataW.trod_lt m _ _ _ hm
  obtain ⟨k, hk⟩ := Pure.FnExactAutoIs b0 es0 gs0 s1 hm0_1 hm0_2
  refine (PFnExactAutoIs.laws_FnExactAutoIs.calls k b0 A0_1 c0_1 es0 A0_2 c0_2 gs0 s1 true W hC0_1 hl0_1 hC0_2 hl0_2 hk rfl).mono fun e W' ⟨he, bel⟩ => ?_
  subst he
  exact ⟨_, rfl, _, _, _, [], _, [], hW', trodAll_mk1 (shut_bool Tryd.underlying4 _), (trodAll_cons_mk (Below.trod laidOut (by kernel_rfl) (of_decide_eq_true (by kernel_rfl)) k0 bel lt0) (trodAll_cons_mk (Below.trod laidOut (by kernel_rfl) (of_decide_eq_true (by kernel_rfl)) k1 bel lt1) trodAll_mk0)), rfl, bel.frame _, fun h => by cases h⟩
theorem over : Rows.fnExactAutoIsRow.holds Tryd.pinned (OpenSpec.ofChange Rows.fnExactAutoIsSpec) :=
  OpenClaim.holds_of_wide 3 Tryd.f3 rfl rfl rfl rfl rfl rfl rfl ⟨rfl, rfl, rfl, rfl, rfl⟩ rfl rfl rfl rfl rfl (by kernel_rfl) Tryd.func3 (by kernel_rfl)
    (of_decide_eq_true (by kernel_rfl)) (by unfold Func.isWrapper; first | (rw [if_pos (by decide +kernel)]; kernel_rfl) | (rw [if_neg (by decide +kernel)]; exact ⟨rfl, rfl⟩))
    (fun os started H enc _ => lifted os started H enc)
theorem proved : Rows.FnExactAutoIsCardSaid :=
  Claim7.holds_tied_plain_at .later [] [.data, .pinned] true (true, "81b0d0b41bae688d0884da1f99d6871e4f4a1e47f6e45f13aae51c35f923acc2") false over (fun _ h => by cases h) (by kernel_rfl) (fun _ h => by cases h) fnExactAutoIs_row_tie rfl ⟨rfl, rfl⟩ (by kernel_rfl) rfl
    (fun f fn hf hfn => by
      obtain rfl : f = 3 := Option.some.inj ((show Tryd.prog.funcNamed "loop.example/construer/laws.FnExactAutoIs" = some 3 by kernel_rfl).symm.trans hf) |>.symm
      obtain rfl : fn = Tryd.f3 := (Option.some.inj (Tryd.func3.symm.trans hfn)).symm
      exact ⟨by kernel_rfl, fun j t ht => by
        rw [Tryd.params3] at ht
        have hm : t ∈ [25, 9] := by simpa using Array.mem_of_getElem? ht
        have hall : ([25, 9].all fun u => !Tryd.prog.wantsStandIn u) = true := by kernel_rfl
        exact (show Tryd.prog.wantsStandIn t = false by simpa using List.all_eq_true.1 hall t hm)⟩)
    (by kernel_rfl)
#print axioms proved
end Go.Proofs.YtdfciihjhknedaaDoor.fnExactAutoIs
namespace Go.Proofs.YtdfciihjhknedaaDoor
/-- The card, under a short name, for the claim. -/
theorem fnExactAutoIs_holds : Rows.FnExactAutoIsCardSaid := fnExactAutoIs.proved
end Go.Proofs.YtdfciihjhknedaaDoor
