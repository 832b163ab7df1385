/- The row of FnExactMendFar and its tied card: for every input the call returns true, and each argument reads afterwards as before. Conditions: the library's listed tables hold what its text lays. -/
import Derived.Test.YtopcbklojbngdaaDoorRows
import Derived.Test.YtopcbklojbngdaaDoorCards
import Derived.Test.YtopcbklojbngdaaDoorTie
import Derived.Test.YtopcbklojbngdaaDoorXFnExactMendFar
import Derived.Test.YtopcbklojbngdaaDoorDFnExactMendFar
import Derived.Test.YtopcbklojbngdaaDoorLiftE
import Derived.Lay
import Derived.LaidOnce
import Derived.SevenTiedAt
import Derived.WalkKit
import Derived.ProofKit
import Derived.OpenShut
import Derived.ShutString
import Derived.ChangeOld
import Derived.Below
import Derived.SizedLaws
namespace Go.Proofs.YtopcbklojbngdaaDoor.fnExactMendFar
open Go.ChangeShapes Go.WideShapes Go.ChangeAt Go.RowKit
open Go.ChangeMaps (open_string shut_string)
set_option linter.unusedVariables false
end Go.Proofs.YtopcbklojbngdaaDoor.fnExactMendFar
namespace Go.Proofs.YtopcbklojbngdaaDoor.LiftE
open Go.RowKit
theorem told0 {H : Type} {enc : TypeId × Value → H} {W : World} {base : Nat} {sp : Nat → Bool} {held : Bool} : Told enc Tryd.prog W base sp held 37 (.pair .str (.sl (.pair .str .str))) := (told_pair Tryd.underlying37 rfl rfl (by kernel_rfl) (by kernel_rfl) (by kernel_rfl) (told_str Tryd.underlying9) (told_slice Tryd.underlying35 (by kernel_rfl) (by decide) rfl (told_pair Tryd.underlying77 rfl rfl (by kernel_rfl) (by kernel_rfl) (by kernel_rfl) (told_str Tryd.underlying9) (told_str Tryd.underlying9))))
theorem told1 {H : Type} {enc : TypeId × Value → H} {W : World} {base : Nat} {sp : Nat → Bool} {held : Bool} : Told enc Tryd.prog W base sp held 9 .str := (told_str Tryd.underlying9)
end Go.Proofs.YtopcbklojbngdaaDoor.LiftE
namespace Go.Proofs.YtopcbklojbngdaaDoor.fnExactMendFar
open Go.ChangeShapes Go.WideShapes Go.ChangeAt Go.RowKit
set_option linter.unusedVariables false
theorem own : ownKnob Tryd.prog.godebug = none := by kernel_rfl
theorem laidOut : laidOutB Tryd.prog = true := by kernel_rfl
def IsRow (k : IntKind) (w : World) (a : Option Addr) (len cap : Nat) (zs : List Int) : Prop :=
  (a = none ∧ len = 0 ∧ cap = 0 ∧ zs = []) ∨
  ∃ x, a = some x ∧ len ≤ cap ∧ cap ≤ maxLen ∧ zs.length = cap ∧ (∀ i, i < zs.length → w.cell? (x.add i) = some (.int k (zs.getD i 0))) ∧ ∀ n ∈ zs, (Lit.int k n).wf = true
set_option maxRecDepth 100000 in
theorem lifted (os : Os) (started : os.Started) (H : Type) (enc : TypeId × Value → H) :
    ReturnsInHanded {} Tryd.checked os 5 .any (fun w args => (Rows.fnExactMendFarSpec.pre enc Tryd.prog Tryd.f5 [] false w args ∧ laidMetH Tryd.prog Rows.fnExactMendFarRow.laid w) ∧ sizedMet enc Tryd.prog Tryd.f5 (OpenSpec.ofChange Rows.fnExactMendFarSpec) false w args) (Rows.fnExactMendFarSpec.post enc Tryd.prog Tryd.f5 false true false false) := by
  refine returnsInHanded_of_change_and (C := Tryd.checked) (X := fun w _ => laidMetH Tryd.prog Rows.fnExactMendFarRow.laid w) (fun _ _ _ hh h => h.of_heap hh) own started (by kernel_rfl) Tryd.func5
    (ChangeSpec.witness_shaped (enc := enc) (C := Tryd.checked) (os := os) (X := fun w _ => laidMetH Tryd.prog Rows.fnExactMendFarRow.laid w) false (World.laidAll Tryd.prog os Rows.fnExactMendFarRow.laid) #[.agg #[.string ByteArray.empty, .slice none 0 0], .string ByteArray.empty] 8 (World.laidAll_os _ _ _)
      (World.shaped_of_ZipB (by kernel_rfl) (by kernel_rfl)) (by kernel_rfl) (by kernel_rfl) (by kernel_rfl)
      (by rw [MakeChecks.laidMetH_plain _ _ _ (by kernel_rfl)]; exact laidMet_laidAll _ (by kernel_rfl) (by kernel_rfl))) ?_
  intro W base args ds gs before hval0 hW hcnd hsz0 _hL _
  have hval : ∀ (j : Nat) t v, Tryd.f5.params[j]? = some t → args[j]? = some v → Value.okWide Tryd.prog W .any base t v := hval0
  have hW' := hW
  obtain ⟨p, q, hA0, hV, rfl, hfz, hnd⟩ := hW
  have hA : DataW.TrodAll enc Tryd.prog W 0 (fun _ => true) true Tryd.f5.params.toList args.toList ds p := hA0
  rw [Tryd.params5] at hA hval
  obtain ⟨v0, vs0, d0, ds0, p0, q0, hargs, rfl, rfl, h0, r0⟩ := trodAll_cons hA
  obtain ⟨v1, vs1, d1, ds1, p1, q1, rfl, rfl, rfl, h1, r1⟩ := trodAll_cons r0
  obtain ⟨rfl, rfl, rfl⟩ := trodAll_nil r1
  obtain rfl : args = #[v0, v1] := by cases args; simp_all
  obtain ⟨rfl, rfl⟩ := trodVars_none hV
  obtain ⟨cs0, rfl, _⟩ := okWide_struct Tryd.underlying37 (hval 0 37 v0 rfl rfl)
  have k0 := h0
  have lt0 : ∀ x ∈ p0, x.block < W.heap.size := by obtain ⟨m, hm⟩ := k0; exact DataW.trod_lt m _ _ _ hm
  obtain ⟨x0, R0, q0⟩ : ∃ x : Eng.Ty.den (.pair .str (.sl (.pair .str .str))), Eng.Rz W (LiftE.All W) (.pair .str (.sl (.pair .str .str))) x _ ∧ LiftE.Sz (.pair .str (.sl (.pair .str .str))) x := by
    obtain ⟨fuel, hf⟩ := h0
    exact LiftE.told0 _ _ _ hf
  have hs0 : Eng.SV W (LiftE.All W) (Eng.V.agg [Eng.V.d .str x0.1, Eng.V.d (.sl (.pair .str .str)) x0.2]) _ := LiftE.sv_agg rfl R0
  obtain ⟨cs1, rfl⟩ := okWide_string Tryd.underlying9 (hval 1 9 v1 rfl rfl)
  have k1 := h1
  have lt1 : ∀ x ∈ p1, x.block < W.heap.size := by obtain ⟨m, hm⟩ := k1; exact DataW.trod_lt m _ _ _ hm
  obtain ⟨x1, R1, q1⟩ : ∃ x : Eng.Ty.den .str, Eng.Rz W (LiftE.All W) .str x _ ∧ LiftE.Sz .str x := by
    obtain ⟨fuel, hf⟩ := h1
    exact LiftE.told1 _ _ _ hf
  have hs1 : Eng.SV W (LiftE.All W) (Eng.V.d .str x1) _ := Eng.sv_d rfl R1
  obtain ⟨k, hk⟩ := (Pure.law_ev x0.1 x0.2 x1 q0 q1).rounds
  have hk' : (Eng.sem Tryd.prog TA.A TA.X k).call 5 [Eng.V.agg [Eng.V.d .str x0.1, Eng.V.d (.sl (.pair .str .str)) x0.2], Eng.V.d .str x1] = some (show Eng.Ann.out TA.A 5 from (true : Bool)) := hk
  refine (Eng.law_calls XT.wf XT.mixed XT.ext hk' rfl rfl (Eng.gvs_cons hs0 (Eng.gvs_cons hs1 (Eng.gvs_nil _)))).mono fun e W' ⟨he, bel⟩ => ?_
  subst he
  exact ⟨_, rfl, _, _, _, [], _, [], hW', trodAll_mk1 (shut_bool Tryd.underlying4 _), (trodAll_cons_mk (Below.trod laidOut (by kernel_rfl) (of_decide_eq_true (by kernel_rfl)) k0 bel lt0) (trodAll_cons_mk (Below.trod laidOut (by kernel_rfl) (of_decide_eq_true (by kernel_rfl)) k1 bel lt1) trodAll_mk0)), rfl, bel.frame _, fun h => by cases h⟩
theorem over : Rows.fnExactMendFarRow.holds Tryd.pinned (OpenSpec.ofChange Rows.fnExactMendFarSpec) :=
  OpenClaim.holds_of_wide 5 Tryd.f5 rfl rfl rfl rfl rfl rfl rfl ⟨rfl, rfl, rfl, rfl, rfl⟩ rfl rfl rfl rfl rfl (by kernel_rfl) Tryd.func5 (by kernel_rfl)
    (of_decide_eq_true (by kernel_rfl)) (by unfold Func.isWrapper; first | (rw [if_pos (by decide +kernel)]; kernel_rfl) | (rw [if_neg (by decide +kernel)]; exact ⟨rfl, rfl⟩))
    (fun os started H enc _ => lifted os started H enc)
theorem proved : Rows.FnExactMendFarCardSaid :=
  Claim7.holds_tied_plain_at .later [] [.data, .pinned] true (true, "066e69c63ec532564abb4c7a32ee9933c4aac532ea39fd4d2fdc8b709a84436b") false over (fun _ h => by cases h) (by kernel_rfl) (fun _ h => by cases h) fnExactMendFar_row_tie rfl ⟨rfl, rfl⟩ (by kernel_rfl) rfl
    (fun f fn hf hfn => by
      obtain rfl : f = 5 := Option.some.inj ((show Tryd.prog.funcNamed "loop.example/construer/laws.FnExactMendFar" = some 5 by kernel_rfl).symm.trans hf) |>.symm
      obtain rfl : fn = Tryd.f5 := (Option.some.inj (Tryd.func5.symm.trans hfn)).symm
      exact ⟨by kernel_rfl, fun j t ht => by
        rw [Tryd.params5] at ht
        have hm : t ∈ [37, 9] := by simpa using Array.mem_of_getElem? ht
        have hall : ([37, 9].all fun u => !Tryd.prog.wantsStandIn u) = true := by kernel_rfl
        exact (show Tryd.prog.wantsStandIn t = false by simpa using List.all_eq_true.1 hall t hm)⟩)
    (by kernel_rfl)
#print axioms proved
end Go.Proofs.YtopcbklojbngdaaDoor.fnExactMendFar
namespace Go.Proofs.YtopcbklojbngdaaDoor
/-- The card, under a short name, for the claim. -/
theorem fnExactMendFar_holds : Rows.FnExactMendFarCardSaid := fnExactMendFar.proved
end Go.Proofs.YtopcbklojbngdaaDoor
