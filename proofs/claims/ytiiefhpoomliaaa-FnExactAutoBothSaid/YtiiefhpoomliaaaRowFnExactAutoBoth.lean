/- The row of FnExactAutoBoth: for every input the call returns true, and each argument reads afterwards as before. Conditions: none. -/
import Derived.Test.YtiiefhpoomliaaaRows
import Derived.Test.YtiiefhpoomliaaaXFnExactAutoBoth
import Derived.Test.YtiiefhpoomliaaaDFnExactAutoBoth
import Derived.Test.YtiiefhpoomliaaaLiftE
import Derived.WalkKit
import Derived.ProofKit
import Derived.OpenShut
import Derived.ShutString
import Derived.ChangeOld
import Derived.Below
import Derived.SizedLaws
namespace Go.Proofs.Ytiiefhpoomliaaa.fnExactAutoBoth
open Go.ChangeShapes Go.WideShapes Go.ChangeAt Go.RowKit
open Go.ChangeMaps (open_string shut_string)
set_option linter.unusedVariables false
end Go.Proofs.Ytiiefhpoomliaaa.fnExactAutoBoth
namespace Go.Proofs.Ytiiefhpoomliaaa.LiftE
open Go.RowKit
theorem told0 {H : Type} {enc : TypeId × Value → H} {W : World} {base : Nat} {sp : Nat → Bool} {held : Bool} : Told enc Try.prog W base sp held 25 (.pair (.int .i64) (.pair (.sl .bool) (.sl (.sl (.int .i64))))) := (told_triple Try.underlying25 rfl rfl rfl (by kernel_rfl) (by kernel_rfl) (by kernel_rfl) (by kernel_rfl) (told_int Try.underlying3) (told_slice Try.underlying22 (by kernel_rfl) (by decide) rfl (told_bool Try.underlying4)) (told_slice Try.underlying23 (by kernel_rfl) (by decide) rfl (told_slice Try.underlying42 (by kernel_rfl) (by decide) rfl (told_int Try.underlying3))))
theorem told1 {H : Type} {enc : TypeId × Value → H} {W : World} {base : Nat} {sp : Nat → Bool} {held : Bool} : Told enc Try.prog W base sp held 25 (.pair (.int .i64) (.pair (.sl .bool) (.sl (.sl (.int .i64))))) := (told_triple Try.underlying25 rfl rfl rfl (by kernel_rfl) (by kernel_rfl) (by kernel_rfl) (by kernel_rfl) (told_int Try.underlying3) (told_slice Try.underlying22 (by kernel_rfl) (by decide) rfl (told_bool Try.underlying4)) (told_slice Try.underlying23 (by kernel_rfl) (by decide) rfl (told_slice Try.underlying42 (by kernel_rfl) (by decide) rfl (told_int Try.underlying3))))
end Go.Proofs.Ytiiefhpoomliaaa.LiftE
namespace Go.Proofs.Ytiiefhpoomliaaa.fnExactAutoBoth
open Go.ChangeShapes Go.WideShapes Go.ChangeAt Go.RowKit
set_option linter.unusedVariables false
theorem own : ownKnob Try.prog.godebug = none := by kernel_rfl
theorem laidOut : laidOutB Try.prog = true := by kernel_rfl
def IsRow (k : IntKind) (w : World) (a : Option Addr) (len cap : Nat) (zs : List Int) : Prop :=
  (a = none ∧ len = 0 ∧ cap = 0 ∧ zs = []) ∨
  ∃ x, a = some x ∧ len ≤ cap ∧ cap ≤ maxLen ∧ zs.length = cap ∧ (∀ i, i < zs.length → w.cell? (x.add i) = some (.int k (zs.getD i 0))) ∧ ∀ n ∈ zs, (Lit.int k n).wf = true
set_option maxRecDepth 100000 in
theorem lifted (os : Os) (started : os.Started) (H : Type) (enc : TypeId × Value → H) :
    ReturnsInHanded {} Try.checked os 3 .any (Rows.fnExactAutoBothSpec.pre6 enc Try.prog Try.f3 Rows.fnExactAutoBothRow.domain false) (Rows.fnExactAutoBothSpec.post enc Try.prog Try.f3 false true false false) := by
  refine returnsInHanded_of_change_sized (C := Try.checked) own started (by kernel_rfl) Try.func3
    (ChangeSpec.witness6 (enc := enc) (C := Try.checked) false ⟨#[], #[.agg #[.int .i64 0, .slice none 0 0, .slice none 0 0], .agg #[.int .i64 0, .slice none 0 0, .slice none 0 0]], []⟩ 8 (by kernel_rfl) (by kernel_rfl) (by kernel_rfl) (by kernel_rfl)) ?_
  intro W base args ds gs before hval0 hW hcnd hsz0 _
  have hval : ∀ (j : Nat) t v, Try.f3.params[j]? = some t → args[j]? = some v → Value.okWide Try.prog W .any base t v := hval0
  have hW' := hW
  obtain ⟨p, q, hA0, hV, rfl, hfz, hnd⟩ := hW
  have hA : DataW.TrodAll enc Try.prog W 0 (fun _ => true) true Try.f3.params.toList args.toList ds p := hA0
  rw [Try.params3] at hA hval
  obtain ⟨v0, vs0, d0, ds0, p0, q0, hargs, rfl, rfl, h0, r0⟩ := trodAll_cons hA
  obtain ⟨v1, vs1, d1, ds1, p1, q1, rfl, rfl, rfl, h1, r1⟩ := trodAll_cons r0
  obtain ⟨rfl, rfl, rfl⟩ := trodAll_nil r1
  obtain rfl : args = #[v0, v1] := by cases args; simp_all
  obtain ⟨rfl, rfl⟩ := trodVars_none hV
  obtain ⟨cs0, rfl, _⟩ := okWide_struct Try.underlying25 (hval 0 25 v0 rfl rfl)
  have k0 := h0
  have lt0 : ∀ x ∈ p0, x.block < W.heap.size := by obtain ⟨m, hm⟩ := k0; exact DataW.trod_lt m _ _ _ hm
  obtain ⟨x0, R0, q0⟩ : ∃ x : Eng.Ty.den (.pair (.int .i64) (.pair (.sl .bool) (.sl (.sl (.int .i64))))), Eng.Rz W (LiftE.All W) (.pair (.int .i64) (.pair (.sl .bool) (.sl (.sl (.int .i64))))) x _ ∧ LiftE.Sz (.pair (.int .i64) (.pair (.sl .bool) (.sl (.sl (.int .i64))))) x := by
    obtain ⟨fuel, hf⟩ := h0
    exact LiftE.told0 _ _ _ hf
  have hs0 : Eng.SV W (LiftE.All W) (Eng.V.agg [Eng.V.d (.int .i64) x0.1, Eng.V.d (.sl .bool) x0.2.1, Eng.V.d (.sl (.sl (.int .i64))) x0.2.2]) _ := LiftE.sv_agg rfl R0
  obtain ⟨cs1, rfl, _⟩ := okWide_struct Try.underlying25 (hval 1 25 v1 rfl rfl)
  have k1 := h1
  have lt1 : ∀ x ∈ p1, x.block < W.heap.size := by obtain ⟨m, hm⟩ := k1; exact DataW.trod_lt m _ _ _ hm
  obtain ⟨x1, R1, q1⟩ : ∃ x : Eng.Ty.den (.pair (.int .i64) (.pair (.sl .bool) (.sl (.sl (.int .i64))))), Eng.Rz W (LiftE.All W) (.pair (.int .i64) (.pair (.sl .bool) (.sl (.sl (.int .i64))))) x _ ∧ LiftE.Sz (.pair (.int .i64) (.pair (.sl .bool) (.sl (.sl (.int .i64))))) x := by
    obtain ⟨fuel, hf⟩ := h1
    exact LiftE.told1 _ _ _ hf
  have hs1 : Eng.SV W (LiftE.All W) (Eng.V.agg [Eng.V.d (.int .i64) x1.1, Eng.V.d (.sl .bool) x1.2.1, Eng.V.d (.sl (.sl (.int .i64))) x1.2.2]) _ := LiftE.sv_agg rfl R1
  obtain ⟨k, hk⟩ := (Pure.law_ev x0.1 x0.2.1 x0.2.2 x1.1 x1.2.1 x1.2.2 q0 q1).rounds
  have hk' : (Eng.sem Try.prog TA.A TA.X k).call 3 [Eng.V.agg [Eng.V.d (.int .i64) x0.1, Eng.V.d (.sl .bool) x0.2.1, Eng.V.d (.sl (.sl (.int .i64))) x0.2.2], Eng.V.agg [Eng.V.d (.int .i64) x1.1, Eng.V.d (.sl .bool) x1.2.1, Eng.V.d (.sl (.sl (.int .i64))) x1.2.2]] = some (show Eng.Ann.out TA.A 3 from (true : Bool)) := hk
  refine (Eng.law_calls XT.wf XT.marks XT.mixed XT.ext hk' rfl rfl (Eng.gvs_cons hs0 (Eng.gvs_cons hs1 (Eng.gvs_nil _)))).mono fun e W' ⟨he, bel⟩ => ?_
  subst he
  exact ⟨_, rfl, _, _, _, [], _, [], hW', trodAll_mk1 (shut_bool Try.underlying4 _), (trodAll_cons_mk (Below.trod laidOut (by kernel_rfl) (of_decide_eq_true (by kernel_rfl)) k0 bel lt0) (trodAll_cons_mk (Below.trod laidOut (by kernel_rfl) (of_decide_eq_true (by kernel_rfl)) k1 bel lt1) trodAll_mk0)), rfl, bel.frame _, fun h => by cases h⟩
theorem over : Rows.fnExactAutoBothRow.holds Try.pinned (OpenSpec.ofChange Rows.fnExactAutoBothSpec) :=
  OpenClaim.holds_of_wide 3 Try.f3 rfl rfl rfl rfl rfl rfl rfl ⟨rfl, rfl, rfl, rfl, rfl⟩ rfl rfl rfl rfl rfl (by kernel_rfl) Try.func3 (by kernel_rfl)
    (of_decide_eq_true (by kernel_rfl)) (by unfold Func.isWrapper; first | (rw [if_pos (by decide +kernel)]; kernel_rfl) | (rw [if_neg (by decide +kernel)]; exact ⟨rfl, rfl⟩))
    (fun os started H enc _ => lifted os started H enc)
theorem proved : Rows.FnExactAutoBothSaid := over
#print axioms proved
end Go.Proofs.Ytiiefhpoomliaaa.fnExactAutoBoth
namespace Go.Proofs.Ytiiefhpoomliaaa
/-- The row, under a short name, for the claim. -/
theorem fnExactAutoBoth_holds : Rows.FnExactAutoBothSaid := fnExactAutoBoth.proved
end Go.Proofs.Ytiiefhpoomliaaa
