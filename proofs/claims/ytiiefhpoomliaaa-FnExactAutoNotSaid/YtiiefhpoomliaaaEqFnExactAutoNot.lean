/- The equations of the functions that the claim reaches, printed by wip/eng/tool: each is the model's code, evaluated. -/
import Derived.Test.YtiiefhpoomliaaaK1
import Derived.Test.YtiiefhpoomliaaaTA
import Derived.Test.YtiiefhpoomliaaaProg
import Derived.KernelRfl
namespace Go.Proofs.Ytiiefhpoomliaaa.Eq
open Go Go.Proofs.Ytiiefhpoomliaaa.Eng Go.Proofs.Ytiiefhpoomliaaa.TA
set_option linter.unusedVariables false
set_option maxRecDepth 100000
noncomputable abbrev sm (k : Nat) : Sm A := sem Try.prog A X k
noncomputable def laws_FnExactAutoNot (k : Nat) (a0 : Int) (a1 : List Bool) (a2 : List (List Int)) : Option Bool := (sm k).call (nat_lit 4) [V.agg [V.d (Ty.int Go.IntKind.i64) a0, V.d Ty.bool.sl a1, V.d (Ty.int Go.IntKind.i64).sl.sl a2]]
noncomputable def laws_szAuto (k : Nat) (a0 : Int) (a1 : List Bool) (a2 : List (List Int)) (a3 : Int) : Option Int := (sm k).call (5 : Nat) [V.agg [V.d (Ty.int Go.IntKind.i64) a0, V.d Ty.bool.sl a1, V.d (Ty.int Go.IntKind.i64).sl.sl a2], V.d (Ty.int Go.IntKind.i64) a3]
noncomputable def laws_toAuto (k : Nat) (a0 : Int) (a1 : List Bool) (a2 : List (List Int)) : Option (Int × List Bool × List (List Int)) := (sm k).call (7 : Nat) [V.agg [V.d (Ty.int Go.IntKind.i64) a0, V.d Ty.bool.sl a1, V.d (Ty.int Go.IntKind.i64).sl.sl a2]]
noncomputable def spec_AutoNot (k : Nat) (a0 : Int) (a1 : List Bool) (a2 : List (List Int)) : Option ((Int × List Bool × List (List Int)) × Bool) := (sm k).call (12 : Nat) [V.agg [V.d (Ty.int Go.IntKind.i64) a0, V.d Ty.bool.sl a1, V.d (Ty.int Go.IntKind.i64).sl.sl a2]]
noncomputable def impl_AutoNot (k : Nat) (a0 : Int) (a1 : List Bool) (a2 : List (List Int)) : Option ((Int × List Bool × List (List Int)) × Bool) := (sm k).call (13 : Nat) [V.agg [V.d (Ty.int Go.IntKind.i64) a0, V.d Ty.bool.sl a1, V.d (Ty.int Go.IntKind.i64).sl.sl a2]]
noncomputable def laws_eqAuto (k : Nat) (a0 : Int) (a1 : List Bool) (a2 : List (List Int)) (a3 : Int) (a4 : List Bool) (a5 : List (List Int)) : Option Bool := (sm k).call (9 : Nat) [V.agg [V.d (Ty.int Go.IntKind.i64) a0, V.d Ty.bool.sl a1, V.d (Ty.int Go.IntKind.i64).sl.sl a2], V.agg [V.d (Ty.int Go.IntKind.i64) a3, V.d Ty.bool.sl a4, V.d (Ty.int Go.IntKind.i64).sl.sl a5]]
noncomputable def laws_heldAuto (k : Nat) (a0 : Int) (a1 : List Bool) (a2 : List (List Int)) (a3 : Int) : Option Int := (sm k).call (11 : Nat) [V.agg [V.d (Ty.int Go.IntKind.i64) a0, V.d Ty.bool.sl a1, V.d (Ty.int Go.IntKind.i64).sl.sl a2], V.d (Ty.int Go.IntKind.i64) a3]
noncomputable def laws_szBoolS (k : Nat) (a0 : List Bool) (a1 : Int) : Option Int := (sm k).call (14 : Nat) [V.d Ty.bool.sl a0, V.d (Ty.int Go.IntKind.i64) a1]
noncomputable def laws_szIntSS (k : Nat) (a0 : List (List Int)) (a1 : Int) : Option Int := (sm k).call (15 : Nat) [V.d (Ty.int Go.IntKind.i64).sl.sl a0, V.d (Ty.int Go.IntKind.i64) a1]
noncomputable def laws_toBoolS (k : Nat) (a0 : List Bool) : Option (List Bool) := (sm k).call (18 : Nat) [V.d Ty.bool.sl a0]
noncomputable def laws_toIntSS (k : Nat) (a0 : List (List Int)) : Option (List (List Int)) := (sm k).call (19 : Nat) [V.d (Ty.int Go.IntKind.i64).sl.sl a0]
noncomputable def spec_AutoOk (k : Nat) (a0 : Int) (a1 : List Bool) (a2 : List (List Int)) : Option Bool := (sm k).call (16 : Nat) [V.agg [V.d (Ty.int Go.IntKind.i64) a0, V.d Ty.bool.sl a1, V.d (Ty.int Go.IntKind.i64).sl.sl a2]]
noncomputable def spec_l13Copy (k : Nat) (a0 : Int) (a1 : List Bool) (a2 : List (List Int)) : Option (Int × List Bool × List (List Int)) := (sm k).call (28 : Nat) [V.agg [V.d (Ty.int Go.IntKind.i64) a0, V.d Ty.bool.sl a1, V.d (Ty.int Go.IntKind.i64).sl.sl a2]]
noncomputable def spec_l13Whole (k : Nat) (a0 : Int) (a1 : List Bool) (a2 : List (List Int)) : Option Bool := (sm k).call (29 : Nat) [V.agg [V.d (Ty.int Go.IntKind.i64) a0, V.d Ty.bool.sl a1, V.d (Ty.int Go.IntKind.i64).sl.sl a2]]
noncomputable def spec_l13Fill (k : Nat) (a0 : Int) (a1 : List Bool) (a2 : List (List Int)) : Option (Int × List Bool × List (List Int)) := (sm k).call (30 : Nat) [V.agg [V.d (Ty.int Go.IntKind.i64) a0, V.d Ty.bool.sl a1, V.d (Ty.int Go.IntKind.i64).sl.sl a2]]
noncomputable def spec_AutoNot_L31 (k : Nat) (a0 : Int × List Bool × List (List Int)) (a1 : Int × List Bool × List (List Int)) : Option ((Int × List Bool × List (List Int)) × Bool) := (sm k).cut (12 : Nat) (nat_lit 31) (a0, a1)
noncomputable def impl_AutoOk (k : Nat) (a0 : Int) (a1 : List Bool) (a2 : List (List Int)) : Option Bool := (sm k).call (20 : Nat) [V.agg [V.d (Ty.int Go.IntKind.i64) a0, V.d Ty.bool.sl a1, V.d (Ty.int Go.IntKind.i64).sl.sl a2]]
noncomputable def slices_Clone_Sbool_bool (k : Nat) (a0 : List Bool) : Option (List Bool) := (sm k).call (31 : Nat) [V.d Ty.bool.sl a0]
noncomputable def impl_AutoNot_L506 (k : Nat) (a0 : Int × List Bool × List (List Int)) (a1 : Int × List Bool × List (List Int)) (a2 : Int) (a3 : Bool) (a4 : List (List Int)) (a5 : Int) (a6 : Int) : Option ((Int × List Bool × List (List Int)) × Bool) := (sm k).cut (13 : Nat) (nat_lit 506) (a0, a1, a2, a3, a4, a5, a6)
noncomputable def laws_eqBoolS (k : Nat) (a0 : List Bool) (a1 : List Bool) : Option Bool := (sm k).call (22 : Nat) [V.d Ty.bool.sl a0, V.d Ty.bool.sl a1]
noncomputable def laws_eqIntSS (k : Nat) (a0 : List (List Int)) (a1 : List (List Int)) : Option Bool := (sm k).call (23 : Nat) [V.d (Ty.int Go.IntKind.i64).sl.sl a0, V.d (Ty.int Go.IntKind.i64).sl.sl a1]
noncomputable def laws_heldBoolS (k : Nat) (a0 : List Bool) (a1 : Int) : Option Int := (sm k).call (26 : Nat) [V.d Ty.bool.sl a0, V.d (Ty.int Go.IntKind.i64) a1]
noncomputable def laws_heldIntSS (k : Nat) (a0 : List (List Int)) (a1 : Int) : Option Int := (sm k).call (27 : Nat) [V.d (Ty.int Go.IntKind.i64).sl.sl a0, V.d (Ty.int Go.IntKind.i64) a1]
noncomputable def laws_szIntSS_L122 (k : Nat) (a0 : List (List Int)) (a1 : Int) (a2 : Int) : Option Int := (sm k).cut (15 : Nat) (nat_lit 122) (a0, a1, a2)
noncomputable def laws_toBoolS_L58 (k : Nat) (a0 : List Bool) (a1 : List Bool) (a2 : Int) : Option (List Bool) := (sm k).cut (18 : Nat) (nat_lit 58) (a0, a1, a2)
noncomputable def laws_toIntSS_L58 (k : Nat) (a0 : List (List Int)) (a1 : List (List Int)) (a2 : Int) : Option (List (List Int)) := (sm k).cut (19 : Nat) (nat_lit 58) (a0, a1, a2)
noncomputable def spec_AutoOk_L122 (k : Nat) (a0 : Int × List Bool × List (List Int)) (a1 : Int) (a2 : Int) : Option Bool := (sm k).cut (16 : Nat) (nat_lit 122) (a0, a1, a2)
noncomputable def spec_l13Copy_L58 (k : Nat) (a0 : Int × List Bool × List (List Int)) (a1 : Int × List Bool × List (List Int)) (a2 : Int × List Bool × List (List Int)) (a3 : Int) : Option (Int × List Bool × List (List Int)) := (sm k).cut (28 : Nat) (nat_lit 58) (a0, a1, a2, a3)
noncomputable def spec_l13Whole_L26 (k : Nat) (a0 : Int × List Bool × List (List Int)) (a1 : Int) : Option Bool := (sm k).cut (29 : Nat) (nat_lit 26) (a0, a1)
noncomputable def spec_l13Fill_L506 (k : Nat) (a0 : Int × List Bool × List (List Int)) (a1 : Int × List Bool × List (List Int)) (a2 : Int) (a3 : Int) : Option (Int × List Bool × List (List Int)) := (sm k).cut (30 : Nat) (nat_lit 506) (a0, a1, a2, a3)
noncomputable def spec_AutoNot_L250 (k : Nat) (a0 : Int × List Bool × List (List Int)) (a1 : Int × List Bool × List (List Int)) (a2 : Int) : Option ((Int × List Bool × List (List Int)) × Bool) := (sm k).cut (12 : Nat) (nat_lit 250) (a0, a1, a2)
noncomputable def slices_ContainsFunc_SSint_Sint (k : Nat) (a0 : List (List Int)) (a1 : Int) (a2 : List Bool) (a3 : List (List Int)) : Option Bool := (sm k).call (36 : Nat) [V.d (Ty.int Go.IntKind.i64).sl.sl a0, V.fn (37 : Nat) [V.eb [V.d (Ty.int Go.IntKind.i64) a1, V.d Ty.bool.sl a2, V.d (Ty.int Go.IntKind.i64).sl.sl a3] (nat_lit 0)]]
noncomputable def slices_Clone_Sint_int (k : Nat) (a0 : List Int) : Option (List Int) := (sm k).call (32 : Nat) [V.d (Ty.int Go.IntKind.i64).sl a0]
noncomputable def impl_AutoNot_L518554 (k : Nat) (a0 : Int × List Bool × List (List Int)) (a1 : Int × List Bool × List (List Int)) (a2 : Int) (a3 : Bool) (a4 : List Int) (a5 : List (List Int)) (a6 : Int) (a7 : Int) (a8 : Int) (a9 : Int) : Option ((Int × List Bool × List (List Int)) × Bool) := (sm k).cut (13 : Nat) (nat_lit 518554) (a0, a1, a2, a3, a4, a5, a6, a7, (), a8, a9)
noncomputable def slices_Repeat_Sint_int (k : Nat) (a0 : List Int) (a1 : Int) : Option (List Int) := (sm k).call (33 : Nat) [V.d (Ty.int Go.IntKind.i64).sl a0, V.d (Ty.int Go.IntKind.i64) a1]
noncomputable def impl_AutoNot_L255 (k : Nat) (a0 : Int × List Bool × List (List Int)) (a1 : Int × List Bool × List (List Int)) : Option ((Int × List Bool × List (List Int)) × Bool) := (sm k).cut (13 : Nat) (nat_lit 255) (a0, a1)
noncomputable def laws_eqBoolS_L58 (k : Nat) (a0 : List Bool) (a1 : List Bool) (a2 : Int) : Option Bool := (sm k).cut (22 : Nat) (nat_lit 58) (a0, a1, a2)
noncomputable def laws_eqIntSS_L58 (k : Nat) (a0 : List (List Int)) (a1 : List (List Int)) (a2 : Int) : Option Bool := (sm k).cut (23 : Nat) (nat_lit 58) (a0, a1, a2)
noncomputable def laws_heldBoolS_L26 (k : Nat) (a0 : List Bool) (a1 : Int) (a2 : Int) : Option Int := (sm k).cut (26 : Nat) (nat_lit 26) (a0, a1, a2)
noncomputable def laws_heldIntSS_L26 (k : Nat) (a0 : List (List Int)) (a1 : Int) (a2 : Int) : Option Int := (sm k).cut (27 : Nat) (nat_lit 26) (a0, a1, a2)
noncomputable def laws_szIntS (k : Nat) (a0 : List Int) (a1 : Int) : Option Int := (sm k).call (34 : Nat) [V.d (Ty.int Go.IntKind.i64).sl a0, V.d (Ty.int Go.IntKind.i64) a1]
noncomputable def laws_toIntS (k : Nat) (a0 : List Int) : Option (List Int) := (sm k).call (35 : Nat) [V.d (Ty.int Go.IntKind.i64).sl a0]
noncomputable def spec_AutoOk_L15654 (k : Nat) (a0 : Int × List Bool × List (List Int)) (a1 : Int) (a2 : Int) (a3 : Int) : Option Bool := (sm k).cut (16 : Nat) (nat_lit 15654) (a0, a1, a2, a3)
noncomputable def spec_l13Whole_L1682 (k : Nat) (a0 : Int × List Bool × List (List Int)) (a1 : Int) (a2 : Int) : Option Bool := (sm k).cut (29 : Nat) (nat_lit 1682) (a0, a1, a2)
noncomputable def spec_l13Fill_L32402 (k : Nat) (a0 : Int × List Bool × List (List Int)) (a1 : Int × List Bool × List (List Int)) (a2 : Int) (a3 : Int) (a4 : Int) : Option (Int × List Bool × List (List Int)) := (sm k).cut (30 : Nat) (nat_lit 32402) (a0, a1, a2, a3, a4)
noncomputable def slices_IndexFunc_SSint_Sint (k : Nat) (a0 : List (List Int)) (a1 : Int) (a2 : List Bool) (a3 : List (List Int)) : Option Int := (sm k).call (45 : Nat) [V.d (Ty.int Go.IntKind.i64).sl.sl a0, V.fn (37 : Nat) [V.eb [V.d (Ty.int Go.IntKind.i64) a1, V.d Ty.bool.sl a2, V.d (Ty.int Go.IntKind.i64).sl.sl a3] (nat_lit 0)]]
noncomputable def impl_AutoNot_L2042 (k : Nat) (a0 : Int × List Bool × List (List Int)) (a1 : Int × List Bool × List (List Int)) (a2 : Int) (a3 : Int) : Option ((Int × List Bool × List (List Int)) × Bool) := (sm k).cut (13 : Nat) (nat_lit 2042) (a0, a1, a2, a3)
noncomputable def laws_eqIntS (k : Nat) (a0 : List Int) (a1 : List Int) : Option Bool := (sm k).call (41 : Nat) [V.d (Ty.int Go.IntKind.i64).sl a0, V.d (Ty.int Go.IntKind.i64).sl a1]
noncomputable def laws_heldIntS (k : Nat) (a0 : List Int) (a1 : Int) : Option Int := (sm k).call (43 : Nat) [V.d (Ty.int Go.IntKind.i64).sl a0, V.d (Ty.int Go.IntKind.i64) a1]
noncomputable def laws_toIntS_L58 (k : Nat) (a0 : List Int) (a1 : List Int) (a2 : Int) : Option (List Int) := (sm k).cut (35 : Nat) (nat_lit 58) (a0, a1, a2)
noncomputable def slices_IndexFunc_SSint_Sint_L26 (k : Nat) (a0 : List (List Int)) (a1 : Int) (a2 : List Bool) (a3 : List (List Int)) (a4 : Int) (a5 : Int) : Option Int := (sm k).cut (45 : Nat) (nat_lit 26) (a0, V.fn (37 : Nat) [V.eb [V.d (Ty.int Go.IntKind.i64) a1, V.d Ty.bool.sl a2, V.d (Ty.int Go.IntKind.i64).sl.sl a3] (nat_lit 0)], a4, a5)
noncomputable def laws_eqIntS_L58 (k : Nat) (a0 : List Int) (a1 : List Int) (a2 : Int) : Option Bool := (sm k).cut (41 : Nat) (nat_lit 58) (a0, a1, a2)
noncomputable def laws_heldIntS_L26 (k : Nat) (a0 : List Int) (a1 : Int) (a2 : Int) : Option Int := (sm k).cut (43 : Nat) (nat_lit 26) (a0, a1, a2)
noncomputable def impl_AutoOk_1 (k : Nat) (a0 : List Int) (a1 : Int) (a2 : List Bool) (a3 : List (List Int)) : Option Bool := (sm k).call (37 : Nat) [V.d (Ty.int Go.IntKind.i64).sl a0, V.eb [V.d (Ty.int Go.IntKind.i64) a1, V.d Ty.bool.sl a2, V.d (Ty.int Go.IntKind.i64).sl.sl a3] (nat_lit 0)]
noncomputable def slices_ContainsFunc_Sint_int (k : Nat) (a0 : List Int) (a1 : Int) (a2 : List Bool) (a3 : List (List Int)) : Option Bool := (sm k).call (38 : Nat) [V.d (Ty.int Go.IntKind.i64).sl a0, V.fn (39 : Nat) [V.eb [V.d (Ty.int Go.IntKind.i64) a1, V.d Ty.bool.sl a2, V.d (Ty.int Go.IntKind.i64).sl.sl a3] (nat_lit 0)]]
noncomputable def slices_IndexFunc_Sint_int (k : Nat) (a0 : List Int) (a1 : Int) (a2 : List Bool) (a3 : List (List Int)) : Option Int := (sm k).call (46 : Nat) [V.d (Ty.int Go.IntKind.i64).sl a0, V.fn (39 : Nat) [V.eb [V.d (Ty.int Go.IntKind.i64) a1, V.d Ty.bool.sl a2, V.d (Ty.int Go.IntKind.i64).sl.sl a3] (nat_lit 0)]]
noncomputable def slices_IndexFunc_Sint_int_L26 (k : Nat) (a0 : List Int) (a1 : Int) (a2 : List Bool) (a3 : List (List Int)) (a4 : Int) (a5 : Int) : Option Int := (sm k).cut (46 : Nat) (nat_lit 26) (a0, V.fn (39 : Nat) [V.eb [V.d (Ty.int Go.IntKind.i64) a1, V.d Ty.bool.sl a2, V.d (Ty.int Go.IntKind.i64).sl.sl a3] (nat_lit 0)], a4, a5)
noncomputable def impl_AutoOk_1_1 (k : Nat) (a0 : Int) (a1 : Int) (a2 : List Bool) (a3 : List (List Int)) : Option Bool := (sm k).call (39 : Nat) [V.d (Ty.int Go.IntKind.i64) a0, V.eb [V.d (Ty.int Go.IntKind.i64) a1, V.d Ty.bool.sl a2, V.d (Ty.int Go.IntKind.i64).sl.sl a3] (nat_lit 0)]
noncomputable def impl_Auto_isGoal (k : Nat) (a0 : Int) (a1 : List Bool) (a2 : List (List Int)) (a3 : Int) : Option Bool := (sm k).call (40 : Nat) [V.agg [V.d (Ty.int Go.IntKind.i64) a0, V.d Ty.bool.sl a1, V.d (Ty.int Go.IntKind.i64).sl.sl a2], V.d (Ty.int Go.IntKind.i64) a3]
theorem laws_FnExactAutoNot_eq (k : Nat) (a0 : Int) (a1 : List Bool) (a2 : List (List Int)) : laws_FnExactAutoNot (k + 1) a0 a1 a2 =
  (laws_szAuto k a0 a1 a2 (1048576 : Int)).bind fun x => ifE (decide (x < (0 : Int)) = true) (some true) ((laws_toAuto k a0 a1 a2).bind fun x => (spec_AutoNot k x.fst x.snd.fst x.snd.snd).bind fun x => (laws_toAuto k a0 a1 a2).bind fun x_1 => (impl_AutoNot k x_1.fst x_1.snd.fst x_1.snd.snd).bind fun x_2 => (laws_eqAuto k x_2.fst.fst x_2.fst.snd.fst x_2.fst.snd.snd x.fst.fst x.fst.snd.fst x.fst.snd.snd).bind fun x_3 => ifE ((!x_3) = false) (ifE ((!decide (x_2.snd = x.snd)) = true) (some false) ((laws_toAuto k a0 a1 a2).bind fun x_4 => (laws_eqAuto k x_1.fst x_1.snd.fst x_1.snd.snd x_4.fst x_4.snd.fst x_4.snd.snd).bind fun x_5 => ifE ((!x_5) = true) (some false) (ifE ((0 : Int) ≤ (1 : Int) ∧ (1 : Int) + (↑(List.length x_1.snd.fst + lenG x_1.snd.snd) : Int) ≤ (1099511627776 : Int)) (ifE (decide ((1 : Int) + (↑(List.length x_1.snd.fst + lenG x_1.snd.snd) : Int) < (0 : Int)) = false) ((laws_eqAuto k x_2.fst.fst x_2.fst.snd.fst x_2.fst.snd.snd x.fst.fst x.fst.snd.fst x.fst.snd.snd).bind fun x_6 => ifE ((!x_6) = false) (ifE ((!decide (x_2.snd = x.snd)) = true) (some false) (ifE ((0 : Int) ≤ (1 : Int) ∧ (1 : Int) + (↑(List.length x_2.fst.snd.fst + lenG x_2.fst.snd.snd) : Int) ≤ (1099511627776 : Int)) ((laws_heldAuto k x_2.fst.fst (markB (1 : Int) x_2.fst.snd.fst) (markG ((1 : Int) + (↑(List.length x_2.fst.snd.fst) : Int)) x_2.fst.snd.snd) (1 : Int)).bind fun x_7 => ifE (decide (x_7 < (0 : Int)) = true) (some false) (ifE ((!decide (x_7 = (1 : Int) + (↑(List.length x_2.fst.snd.fst + lenG x_2.fst.snd.snd) : Int))) = true) (some false) ((laws_toAuto k a0 a1 a2).bind fun x_8 => (impl_AutoNot k x_8.fst x_8.snd.fst x_8.snd.snd).bind fun x_9 => (laws_eqAuto k x_9.fst.fst x_9.fst.snd.fst x_9.fst.snd.snd x.fst.fst x.fst.snd.fst x.fst.snd.snd).bind fun x_10 => ifE ((!x_10) = false) (ifE ((!decide (x_9.snd = x.snd)) = true) (some false) ((laws_heldAuto k x_2.fst.fst (markB (1 : Int) x_2.fst.snd.fst) (markG ((1 : Int) + (↑(List.length x_2.fst.snd.fst) : Int)) x_2.fst.snd.snd) (1 : Int)).bind fun x => ifE (decide (x < (0 : Int)) = true) (some false) (ifE ((!decide (x = (1 : Int) + (↑(List.length x_2.fst.snd.fst + lenG x_2.fst.snd.snd) : Int))) = true) (some false) (some true)))) (some false)))) none)) (some false)) (some false)) none))) (some false)) := by kernel_rfl
theorem laws_szAuto_eq (k : Nat) (a0 : Int) (a1 : List Bool) (a2 : List (List Int)) (a3 : Int) : laws_szAuto (k + 1) a0 a1 a2 a3 =
  (laws_szBoolS k a1 a3).bind fun x => ifE (decide (x < (0 : Int)) = true) (some (Int.negSucc (nat_lit 0))) ((laws_szIntSS k a2 x).bind fun x => ifE (decide (x < (0 : Int)) = true) (some (Int.negSucc (nat_lit 0))) (some x)) := by kernel_rfl
theorem laws_toAuto_eq (k : Nat) (a0 : Int) (a1 : List Bool) (a2 : List (List Int)) : laws_toAuto (k + 1) a0 a1 a2 =
  (laws_toBoolS k a1).bind fun x => (laws_toIntSS k a2).bind fun x_1 => some (a0, x, x_1) := by kernel_rfl
theorem spec_AutoNot_eq (k : Nat) (a0 : Int) (a1 : List Bool) (a2 : List (List Int)) : spec_AutoNot (k + 1) a0 a1 a2 =
  (spec_AutoOk k a0 a1 a2).bind fun x => ifE ((!x) = true) (some (((0 : Int), [], []), false)) ((spec_l13Copy k a0 a1 a2).bind fun x => (spec_l13Whole k a0 a1 a2).bind fun x_1 => ifE ((!x_1) = true) ((spec_l13Fill k a0 a1 a2).bind fun x => spec_AutoNot_L31 k ((0 : Int), [], []) (x.fst, x.snd.fst, x.snd.snd)) (spec_AutoNot_L31 k ((0 : Int), [], []) (x.fst, x.snd.fst, x.snd.snd))) := by kernel_rfl
theorem impl_AutoNot_eq (k : Nat) (a0 : Int) (a1 : List Bool) (a2 : List (List Int)) : impl_AutoNot (k + 1) a0 a1 a2 =
  (impl_AutoOk k a0 a1 a2).bind fun x => ifE ((!x) = true) (some (((0 : Int), [], []), false)) ((slices_Clone_Sbool_bool k a1).bind fun x => impl_AutoNot_L506 k ((0 : Int), [], []) (a0, x, []) (↑a1.length : Int) false a2 (↑a2.length : Int) (0 : Int)) := by kernel_rfl
theorem laws_eqAuto_eq (k : Nat) (a0 : Int) (a1 : List Bool) (a2 : List (List Int)) (a3 : Int) (a4 : List Bool) (a5 : List (List Int)) : laws_eqAuto (k + 1) a0 a1 a2 a3 a4 a5 =
  ifE ((!decide (a0 = a3)) = true) (some false) ((laws_eqBoolS k a1 a4).bind fun x => ifE ((!x) = true) (some false) ((laws_eqIntSS k a2 a5).bind fun x => ifE ((!x) = true) (some false) (some true))) := by kernel_rfl
theorem laws_heldAuto_eq (k : Nat) (a0 : Int) (a1 : List Bool) (a2 : List (List Int)) (a3 : Int) : laws_heldAuto (k + 1) a0 a1 a2 a3 =
  (laws_heldBoolS k a1 a3).bind fun x => ifE (decide (x < (0 : Int)) = true) (some (Int.negSucc (nat_lit 0))) ((laws_heldIntSS k a2 x).bind fun x => ifE (decide (x < (0 : Int)) = true) (some (Int.negSucc (nat_lit 0))) (some x)) := by kernel_rfl
theorem laws_szBoolS_eq (k : Nat) (a0 : List Bool) (a1 : Int) : laws_szBoolS (k + 1) a0 a1 =
  ifE (decide (Go.IntKind.i64.wrap (a1 - (↑a0.length : Int)) < (0 : Int)) = true) (some (Int.negSucc (nat_lit 0))) (some (Go.IntKind.i64.wrap (a1 - (↑a0.length : Int)))) := by kernel_rfl
theorem laws_szIntSS_eq (k : Nat) (a0 : List (List Int)) (a1 : Int) : laws_szIntSS (k + 1) a0 a1 =
  ifE (decide (Go.IntKind.i64.wrap (a1 - (↑a0.length : Int)) < (0 : Int)) = true) (some (Int.negSucc (nat_lit 0))) (laws_szIntSS_L122 k a0 (Go.IntKind.i64.wrap (a1 - (↑a0.length : Int))) (0 : Int)) := by kernel_rfl
theorem laws_toBoolS_eq (k : Nat) (a0 : List Bool) : laws_toBoolS (k + 1) a0 =
  ifE ((↑a0.length : Int) = (↑a0.length : Int)) (ifE ((0 : Int) ≤ (↑a0.length : Int)) (ifE ((↑a0.length : Int) < (↑maxLenE : Int)) (laws_toBoolS_L58 k a0 (List.replicate (↑a0.length : Int).toNat false) (0 : Int)) none) none) none := by kernel_rfl
theorem laws_toIntSS_eq (k : Nat) (a0 : List (List Int)) : laws_toIntSS (k + 1) a0 =
  ifE ((↑a0.length : Int) = (↑a0.length : Int)) (ifE ((0 : Int) ≤ (↑a0.length : Int)) (ifE ((↑a0.length : Int) < (↑maxLenE : Int)) (laws_toIntSS_L58 k a0 (List.replicate (↑a0.length : Int).toNat []) (0 : Int)) none) none) none := by kernel_rfl
theorem spec_AutoOk_eq (k : Nat) (a0 : Int) (a1 : List Bool) (a2 : List (List Int)) : spec_AutoOk (k + 1) a0 a1 a2 =
  ifE (decide ((↑a1.length : Int) < (1 : Int)) = false) (ifE (decide ((6 : Int) < (↑a1.length : Int)) = false) (ifE ((!decide ((↑a2.length : Int) = (↑a1.length : Int))) = false) (ifE (decide (a0 < (0 : Int)) = false) (ifE (decide ((↑a1.length : Int) ≤ a0) = true) (some false) (spec_AutoOk_L122 k (a0, a1, a2) (↑a1.length : Int) (0 : Int))) (some false)) (some false)) (some false)) (some false) := by kernel_rfl
theorem spec_l13Copy_eq (k : Nat) (a0 : Int) (a1 : List Bool) (a2 : List (List Int)) : spec_l13Copy (k + 1) a0 a1 a2 =
  ifE ((0 : Nat) + a1.length < maxLenE) (spec_l13Copy_L58 k (a0, a1, a2) ((0 : Int), [], []) (a0, a1, []) (0 : Int)) none := by kernel_rfl
theorem spec_l13Whole_eq (k : Nat) (a0 : Int) (a1 : List Bool) (a2 : List (List Int)) : spec_l13Whole (k + 1) a0 a1 a2 =
  spec_l13Whole_L26 k (a0, a1, a2) (0 : Int) := by kernel_rfl
theorem spec_l13Fill_eq (k : Nat) (a0 : Int) (a1 : List Bool) (a2 : List (List Int)) : spec_l13Fill (k + 1) a0 a1 a2 =
  (spec_l13Copy k a0 a1 a2).bind fun x => ifE (List.length x.snd.fst + [false].length < maxLenE) (ifE (List.length x.snd.snd + [[(↑a1.length : Int), (↑a1.length : Int), (↑a1.length : Int), (↑a1.length : Int)]].length < maxLenE) (spec_l13Fill_L506 k ((0 : Int), [], []) (x.fst, x.snd.fst ++ [false], x.snd.snd ++ [[(↑a1.length : Int), (↑a1.length : Int), (↑a1.length : Int), (↑a1.length : Int)]]) (↑a1.length : Int) (0 : Int)) none) none := by kernel_rfl
theorem spec_AutoNot_L31_eq (k : Nat) (a0 : Int × List Bool × List (List Int)) (a1 : Int × List Bool × List (List Int)) : spec_AutoNot_L31 (k + 1) a0 a1 =
  spec_AutoNot_L250 k (a0.fst, a0.snd.fst, a0.snd.snd) (a1.fst, a1.snd.fst, a1.snd.snd) (0 : Int) := by kernel_rfl
theorem impl_AutoOk_eq (k : Nat) (a0 : Int) (a1 : List Bool) (a2 : List (List Int)) : impl_AutoOk (k + 1) a0 a1 a2 =
  ifE (decide ((↑a1.length : Int) < (1 : Int)) = false)
  (ifE (decide ((6 : Int) < (↑a1.length : Int)) = false)
    (ifE ((!decide ((↑a2.length : Int) = (↑a1.length : Int))) = false)
      (ifE (decide (a0 < (0 : Int)) = false)
        (ifE (decide ((↑a1.length : Int) ≤ a0) = true) (some false)
          ((slices_ContainsFunc_SSint_Sint k a2 a0 a1 a2).bind fun x =>
            some
              (match x with
              | true => false
              | false => true)))
        (some false))
      (some false))
    (some false))
  (some false) := by kernel_rfl
theorem slices_Clone_Sbool_bool_eq (k : Nat) (a0 : List Bool) : slices_Clone_Sbool_bool (k + 1) a0 =
  ifE ((0 : Nat) < a0.length) (ifE ((0 : Nat) + a0.length < maxLenE) (some a0) none) none := by kernel_rfl
theorem impl_AutoNot_L506_eq (k : Nat) (a0 : Int × List Bool × List (List Int)) (a1 : Int × List Bool × List (List Int)) (a2 : Int) (a3 : Bool) (a4 : List (List Int)) (a5 : Int) (a6 : Int) : impl_AutoNot_L506 (k + 1) a0 a1 a2 a3 a4 a5 a6 =
  ifE (decide (a6 < a5) = true) (ifE ((0 : Int) ≤ a6) (ifE (a6 < (↑a4.length : Int)) ((slices_Clone_Sint_int k (a4.getD a6.toNat [])).bind fun x => impl_AutoNot_L518554 k (a0.fst, a0.snd.fst, a0.snd.snd) (a1.fst, a1.snd.fst, a1.snd.snd) a2 a3 x a4 a5 a6 (↑(List.length x) : Int) (0 : Int)) none) none) (ifE (a3 = true) (ifE (a1.snd.fst.length + [false].length < maxLenE) ((slices_Repeat_Sint_int k [a2] (4 : Int)).bind fun x => ifE (a1.snd.snd.length + [x].length < maxLenE) (impl_AutoNot_L255 k (a0.fst, a0.snd.fst, a0.snd.snd) (a1.fst, a1.snd.fst ++ [false], a1.snd.snd ++ [x])) none) none) (impl_AutoNot_L255 k (a0.fst, a0.snd.fst, a0.snd.snd) (a1.fst, a1.snd.fst, a1.snd.snd))) := by kernel_rfl
theorem laws_eqBoolS_eq (k : Nat) (a0 : List Bool) (a1 : List Bool) : laws_eqBoolS (k + 1) a0 a1 =
  ifE ((!decide ((↑a0.length : Int) = (↑a1.length : Int))) = true) (some false) (laws_eqBoolS_L58 k a0 a1 (0 : Int)) := by kernel_rfl
theorem laws_eqIntSS_eq (k : Nat) (a0 : List (List Int)) (a1 : List (List Int)) : laws_eqIntSS (k + 1) a0 a1 =
  ifE ((!decide ((↑a0.length : Int) = (↑a1.length : Int))) = true) (some false) (laws_eqIntSS_L58 k a0 a1 (0 : Int)) := by kernel_rfl
theorem laws_heldBoolS_eq (k : Nat) (a0 : List Bool) (a1 : Int) : laws_heldBoolS (k + 1) a0 a1 =
  laws_heldBoolS_L26 k a0 a1 (0 : Int) := by kernel_rfl
theorem laws_heldIntSS_eq (k : Nat) (a0 : List (List Int)) (a1 : Int) : laws_heldIntSS (k + 1) a0 a1 =
  laws_heldIntSS_L26 k a0 a1 (0 : Int) := by kernel_rfl
theorem laws_szIntSS_L122_eq (k : Nat) (a0 : List (List Int)) (a1 : Int) (a2 : Int) : laws_szIntSS_L122 (k + 1) a0 a1 a2 =
  ifE (decide (a2 < (↑a0.length : Int)) = true) (ifE ((0 : Int) ≤ a2) (ifE (a2 < (↑a0.length : Int)) ((laws_szIntS k (a0.getD a2.toNat []) a1).bind fun x => ifE (decide (x < (0 : Int)) = true) (some (Int.negSucc (nat_lit 0))) (laws_szIntSS_L122 k a0 x (Go.IntKind.i64.wrap (a2 + (1 : Int))))) none) none) (some a1) := by kernel_rfl
theorem laws_toBoolS_L58_eq (k : Nat) (a0 : List Bool) (a1 : List Bool) (a2 : Int) : laws_toBoolS_L58 (k + 1) a0 a1 a2 =
  ifE (decide (a2 < (↑a0.length : Int)) = true) (ifE ((0 : Int) ≤ a2) (ifE (a2 < (↑a0.length : Int)) (ifE ((0 : Int) ≤ a2) (ifE (a2 < (↑a1.length : Int)) (laws_toBoolS_L58 k a0 (a1.set a2.toNat (a0.getD a2.toNat false)) (Go.IntKind.i64.wrap (a2 + (1 : Int)))) none) none) none) none) (some a1) := by kernel_rfl
theorem laws_toIntSS_L58_eq (k : Nat) (a0 : List (List Int)) (a1 : List (List Int)) (a2 : Int) : laws_toIntSS_L58 (k + 1) a0 a1 a2 =
  ifE (decide (a2 < (↑a0.length : Int)) = true) (ifE ((0 : Int) ≤ a2) (ifE (a2 < (↑a0.length : Int)) ((laws_toIntS k (a0.getD a2.toNat [])).bind fun x => ifE ((0 : Int) ≤ a2) (ifE (a2 < (↑a1.length : Int)) (laws_toIntSS_L58 k a0 (a1.set a2.toNat x) (Go.IntKind.i64.wrap (a2 + (1 : Int)))) none) none) none) none) (some a1) := by kernel_rfl
theorem spec_AutoOk_L122_eq (k : Nat) (a0 : Int × List Bool × List (List Int)) (a1 : Int) (a2 : Int) : spec_AutoOk_L122 (k + 1) a0 a1 a2 =
  ifE (decide (a2 < a1) = true) (ifE ((0 : Int) ≤ a2) (ifE (a2 < (↑a0.snd.snd.length : Int)) (ifE ((!decide ((↑(a0.snd.snd.getD a2.toNat []).length : Int) = (4 : Int))) = true) (some false) (spec_AutoOk_L15654 k (a0.fst, a0.snd.fst, a0.snd.snd) a1 a2 (0 : Int))) none) none) (some true) := by kernel_rfl
theorem spec_l13Copy_L58_eq (k : Nat) (a0 : Int × List Bool × List (List Int)) (a1 : Int × List Bool × List (List Int)) (a2 : Int × List Bool × List (List Int)) (a3 : Int) : spec_l13Copy_L58 (k + 1) a0 a1 a2 a3 =
  ifE (decide (a3 < (↑a0.snd.snd.length : Int)) = true) (ifE ((0 : Int) ≤ a3) (ifE (a3 < (↑a0.snd.snd.length : Int)) (ifE ((0 : Nat) + (a0.snd.snd.getD a3.toNat []).length < maxLenE) (ifE (a2.snd.snd.length + [a0.snd.snd.getD a3.toNat []].length < maxLenE) (spec_l13Copy_L58 k (a0.fst, a0.snd.fst, a0.snd.snd) (a1.fst, a1.snd.fst, a1.snd.snd) (a2.fst, a2.snd.fst, a2.snd.snd ++ [a0.snd.snd.getD a3.toNat []]) (Go.IntKind.i64.wrap (a3 + (1 : Int)))) none) none) none) none) (some (a2.fst, a2.snd.fst, a2.snd.snd)) := by kernel_rfl
theorem spec_l13Whole_L26_eq (k : Nat) (a0 : Int × List Bool × List (List Int)) (a1 : Int) : spec_l13Whole_L26 (k + 1) a0 a1 =
  ifE (decide (a1 < (↑a0.snd.snd.length : Int)) = true) (spec_l13Whole_L1682 k (a0.fst, a0.snd.fst, a0.snd.snd) a1 (0 : Int)) (some true) := by kernel_rfl
theorem spec_l13Fill_L506_eq (k : Nat) (a0 : Int × List Bool × List (List Int)) (a1 : Int × List Bool × List (List Int)) (a2 : Int) (a3 : Int) : spec_l13Fill_L506 (k + 1) a0 a1 a2 a3 =
  ifE (decide (a3 < a2) = true) (spec_l13Fill_L32402 k (a0.fst, a0.snd.fst, a0.snd.snd) (a1.fst, a1.snd.fst, a1.snd.snd) a2 a3 (0 : Int)) (some (a1.fst, a1.snd.fst, a1.snd.snd)) := by kernel_rfl
theorem spec_AutoNot_L250_eq (k : Nat) (a0 : Int × List Bool × List (List Int)) (a1 : Int × List Bool × List (List Int)) (a2 : Int) : spec_AutoNot_L250 (k + 1) a0 a1 a2 =
  ifE (decide (a2 < (↑a1.snd.fst.length : Int)) = true)
  (ifE ((0 : Int) ≤ a2)
    (ifE (a2 < (↑a1.snd.fst.length : Int))
      (ifE ((0 : Int) ≤ a2)
        (ifE (a2 < (↑a1.snd.fst.length : Int))
          (spec_AutoNot_L250 k (a0.fst, a0.snd.fst, a0.snd.snd)
            (a1.fst,
              a1.snd.fst.set a2.toNat
                (match a1.snd.fst.getD a2.toNat false with
                | true => false
                | false => true),
              a1.snd.snd)
            (Go.IntKind.i64.wrap (a2 + (1 : Int))))
          none)
        none)
      none)
    none)
  ((spec_AutoOk k a1.fst a1.snd.fst a1.snd.snd).bind fun x => ifE ((!x) = true) (some (((0 : Int), [], []), false)) (some ((a1.fst, a1.snd.fst, a1.snd.snd), true))) := by kernel_rfl
theorem slices_ContainsFunc_SSint_Sint_eq (k : Nat) (a0 : List (List Int)) (a1 : Int) (a2 : List Bool) (a3 : List (List Int)) : slices_ContainsFunc_SSint_Sint (k + 1) a0 a1 a2 a3 =
  (slices_IndexFunc_SSint_Sint k a0 a1 a2 a3).bind fun x => some (decide ((0 : Int) ≤ x)) := by kernel_rfl
theorem slices_Clone_Sint_int_eq (k : Nat) (a0 : List Int) : slices_Clone_Sint_int (k + 1) a0 =
  ifE ((0 : Nat) < a0.length) (ifE ((0 : Nat) + a0.length < maxLenE) (some a0) none) none := by kernel_rfl
theorem impl_AutoNot_L518554_eq (k : Nat) (a0 : Int × List Bool × List (List Int)) (a1 : Int × List Bool × List (List Int)) (a2 : Int) (a3 : Bool) (a4 : List Int) (a5 : List (List Int)) (a6 : Int) (a7 : Int) (a8 : Int) (a9 : Int) : impl_AutoNot_L518554 (k + 1) a0 a1 a2 a3 a4 a5 a6 a7 a8 a9 =
  ifE (decide (a9 < a8) = true) (ifE ((0 : Int) ≤ a9) (ifE (a9 < (↑a4.length : Int)) (ifE (decide (a4.getD a9.toNat (0 : Int) < (0 : Int)) = true) (ifE ((0 : Int) ≤ a9) (ifE (a9 < (↑a4.length : Int)) (impl_AutoNot_L518554 k (a0.fst, a0.snd.fst, a0.snd.snd) (a1.fst, a1.snd.fst, a1.snd.snd) a2 true (a4.set a9.toNat a2) a5 a6 a7 a8 (Go.IntKind.i64.wrap (a9 + (1 : Int)))) none) none) (impl_AutoNot_L518554 k (a0.fst, a0.snd.fst, a0.snd.snd) (a1.fst, a1.snd.fst, a1.snd.snd) a2 a3 a4 a5 a6 a7 a8 (Go.IntKind.i64.wrap (a9 + (1 : Int))))) none) none) (ifE (a1.snd.snd.length + [a4].length < maxLenE) (impl_AutoNot_L506 k (a0.fst, a0.snd.fst, a0.snd.snd) (a1.fst, a1.snd.fst, a1.snd.snd ++ [a4]) a2 a3 a5 a6 (Go.IntKind.i64.wrap (a7 + (1 : Int)))) none) := by kernel_rfl
theorem slices_Repeat_Sint_int_eq (k : Nat) (a0 : List Int) (a1 : Int) : slices_Repeat_Sint_int (k + 1) a0 a1 =
  ifE (a0.length = (1 : Nat) ∧ (1 : Int) ≤ a1 ∧ a1 ≤ (1000000 : Int)) (some (List.replicate a1.toNat (a0.getD (0 : Nat) (0 : Int)))) none := by kernel_rfl
theorem impl_AutoNot_L255_eq (k : Nat) (a0 : Int × List Bool × List (List Int)) (a1 : Int × List Bool × List (List Int)) : impl_AutoNot_L255 (k + 1) a0 a1 =
  impl_AutoNot_L2042 k (a0.fst, a0.snd.fst, a0.snd.snd) (a1.fst, a1.snd.fst, a1.snd.snd) (↑a1.snd.fst.length : Int) (0 : Int) := by kernel_rfl
theorem laws_eqBoolS_L58_eq (k : Nat) (a0 : List Bool) (a1 : List Bool) (a2 : Int) : laws_eqBoolS_L58 (k + 1) a0 a1 a2 =
  ifE (decide (a2 < (↑a0.length : Int)) = true) (ifE ((0 : Int) ≤ a2) (ifE (a2 < (↑a0.length : Int)) (ifE ((0 : Int) ≤ a2) (ifE (a2 < (↑a1.length : Int)) (ifE ((!decide (a0.getD a2.toNat false = a1.getD a2.toNat false)) = true) (some false) (laws_eqBoolS_L58 k a0 a1 (Go.IntKind.i64.wrap (a2 + (1 : Int))))) none) none) none) none) (some true) := by kernel_rfl
theorem laws_eqIntSS_L58_eq (k : Nat) (a0 : List (List Int)) (a1 : List (List Int)) (a2 : Int) : laws_eqIntSS_L58 (k + 1) a0 a1 a2 =
  ifE (decide (a2 < (↑a0.length : Int)) = true) (ifE ((0 : Int) ≤ a2) (ifE (a2 < (↑a0.length : Int)) (ifE ((0 : Int) ≤ a2) (ifE (a2 < (↑a1.length : Int)) ((laws_eqIntS k (a0.getD a2.toNat []) (a1.getD a2.toNat [])).bind fun x => ifE ((!x) = true) (some false) (laws_eqIntSS_L58 k a0 a1 (Go.IntKind.i64.wrap (a2 + (1 : Int))))) none) none) none) none) (some true) := by kernel_rfl
theorem laws_heldBoolS_L26_eq (k : Nat) (a0 : List Bool) (a1 : Int) (a2 : Int) : laws_heldBoolS_L26 (k + 1) a0 a1 a2 =
  ifE (decide (a2 < (↑a0.length : Int)) = true) (ifE ((0 : Int) ≤ a2) (ifE (a2 < (↑a0.length : Int)) (ifE ((!decide (a0.getD a2.toNat false = decide (a1.tmod (3 : Int) = (0 : Int)))) = true) (some (Int.negSucc (nat_lit 0))) (laws_heldBoolS_L26 k a0 (Go.IntKind.i64.wrap (a1 + (1 : Int))) (Go.IntKind.i64.wrap (a2 + (1 : Int))))) none) none) (some a1) := by kernel_rfl
theorem laws_heldIntSS_L26_eq (k : Nat) (a0 : List (List Int)) (a1 : Int) (a2 : Int) : laws_heldIntSS_L26 (k + 1) a0 a1 a2 =
  ifE (decide (a2 < (↑a0.length : Int)) = true) (ifE ((0 : Int) ≤ a2) (ifE (a2 < (↑a0.length : Int)) ((laws_heldIntS k (a0.getD a2.toNat []) a1).bind fun x => ifE (decide (x < (0 : Int)) = true) (some (Int.negSucc (nat_lit 0))) (laws_heldIntSS_L26 k a0 x (Go.IntKind.i64.wrap (a2 + (1 : Int))))) none) none) (some a1) := by kernel_rfl
theorem laws_szIntS_eq (k : Nat) (a0 : List Int) (a1 : Int) : laws_szIntS (k + 1) a0 a1 =
  ifE (decide (Go.IntKind.i64.wrap (a1 - (↑a0.length : Int)) < (0 : Int)) = true) (some (Int.negSucc (nat_lit 0))) (some (Go.IntKind.i64.wrap (a1 - (↑a0.length : Int)))) := by kernel_rfl
theorem laws_toIntS_eq (k : Nat) (a0 : List Int) : laws_toIntS (k + 1) a0 =
  ifE ((↑a0.length : Int) = (↑a0.length : Int)) (ifE ((0 : Int) ≤ (↑a0.length : Int)) (ifE ((↑a0.length : Int) < (↑maxLenE : Int)) (laws_toIntS_L58 k a0 (List.replicate (↑a0.length : Int).toNat (0 : Int)) (0 : Int)) none) none) none := by kernel_rfl
theorem spec_AutoOk_L15654_eq (k : Nat) (a0 : Int × List Bool × List (List Int)) (a1 : Int) (a2 : Int) (a3 : Int) : spec_AutoOk_L15654 (k + 1) a0 a1 a2 a3 =
  ifE (decide (a3 < (4 : Int)) = true) (ifE ((0 : Int) ≤ a2) (ifE (a2 < (↑a0.snd.snd.length : Int)) (ifE ((0 : Int) ≤ a3) (ifE (a3 < (↑(a0.snd.snd.getD a2.toNat []).length : Int)) (ifE (decide ((a0.snd.snd.getD a2.toNat []).getD a3.toNat (0 : Int) < (-1 : Int)) = false) (ifE ((0 : Int) ≤ a2) (ifE (a2 < (↑a0.snd.snd.length : Int)) (ifE ((0 : Int) ≤ a3) (ifE (a3 < (↑(a0.snd.snd.getD a2.toNat []).length : Int)) (ifE (decide (a1 ≤ (a0.snd.snd.getD a2.toNat []).getD a3.toNat (0 : Int)) = true) (some false) (spec_AutoOk_L15654 k (a0.fst, a0.snd.fst, a0.snd.snd) a1 a2 (Go.IntKind.i64.wrap (a3 + (1 : Int))))) none) none) none) none) (some false)) none) none) none) none) (spec_AutoOk_L122 k (a0.fst, a0.snd.fst, a0.snd.snd) a1 (Go.IntKind.i64.wrap (a2 + (1 : Int)))) := by kernel_rfl
theorem spec_l13Whole_L1682_eq (k : Nat) (a0 : Int × List Bool × List (List Int)) (a1 : Int) (a2 : Int) : spec_l13Whole_L1682 (k + 1) a0 a1 a2 =
  ifE (decide (a2 < (4 : Int)) = true) (ifE ((0 : Int) ≤ a1) (ifE (a1 < (↑a0.snd.snd.length : Int)) (ifE ((0 : Int) ≤ a2) (ifE (a2 < (↑(a0.snd.snd.getD a1.toNat []).length : Int)) (ifE (decide ((a0.snd.snd.getD a1.toNat []).getD a2.toNat (0 : Int) < (0 : Int)) = true) (some false) (spec_l13Whole_L1682 k (a0.fst, a0.snd.fst, a0.snd.snd) a1 (Go.IntKind.i64.wrap (a2 + (1 : Int))))) none) none) none) none) (spec_l13Whole_L26 k (a0.fst, a0.snd.fst, a0.snd.snd) (Go.IntKind.i64.wrap (a1 + (1 : Int)))) := by kernel_rfl
theorem spec_l13Fill_L32402_eq (k : Nat) (a0 : Int × List Bool × List (List Int)) (a1 : Int × List Bool × List (List Int)) (a2 : Int) (a3 : Int) (a4 : Int) : spec_l13Fill_L32402 (k + 1) a0 a1 a2 a3 a4 =
  ifE (decide (a4 < (4 : Int)) = true) (ifE ((0 : Int) ≤ a3) (ifE (a3 < (↑a1.snd.snd.length : Int)) (ifE ((0 : Int) ≤ a4) (ifE (a4 < (↑(a1.snd.snd.getD a3.toNat []).length : Int)) (ifE (decide ((a1.snd.snd.getD a3.toNat []).getD a4.toNat (0 : Int) < (0 : Int)) = true) (ifE ((0 : Int) ≤ a3) (ifE (a3 < (↑a1.snd.snd.length : Int)) (ifE ((0 : Int) ≤ a4) (ifE (a4 < (↑(a1.snd.snd.getD a3.toNat []).length : Int)) (spec_l13Fill_L32402 k (a0.fst, a0.snd.fst, a0.snd.snd) (a1.fst, a1.snd.fst, a1.snd.snd.set a3.toNat ((a1.snd.snd.getD a3.toNat []).set a4.toNat a2)) a2 a3 (Go.IntKind.i64.wrap (a4 + (1 : Int)))) none) none) none) none) (spec_l13Fill_L32402 k (a0.fst, a0.snd.fst, a0.snd.snd) (a1.fst, a1.snd.fst, a1.snd.snd) a2 a3 (Go.IntKind.i64.wrap (a4 + (1 : Int))))) none) none) none) none) (spec_l13Fill_L506 k (a0.fst, a0.snd.fst, a0.snd.snd) (a1.fst, a1.snd.fst, a1.snd.snd) a2 (Go.IntKind.i64.wrap (a3 + (1 : Int)))) := by kernel_rfl
theorem slices_IndexFunc_SSint_Sint_eq (k : Nat) (a0 : List (List Int)) (a1 : Int) (a2 : List Bool) (a3 : List (List Int)) : slices_IndexFunc_SSint_Sint (k + 1) a0 a1 a2 a3 =
  slices_IndexFunc_SSint_Sint_L26 k a0 a1 a2 a3 (↑a0.length : Int) (0 : Int) := by kernel_rfl
theorem impl_AutoNot_L2042_eq (k : Nat) (a0 : Int × List Bool × List (List Int)) (a1 : Int × List Bool × List (List Int)) (a2 : Int) (a3 : Int) : impl_AutoNot_L2042 (k + 1) a0 a1 a2 a3 =
  ifE (decide (a3 < a2) = true)
  (ifE ((0 : Int) ≤ a3)
    (ifE (a3 < (↑a1.snd.fst.length : Int))
      (ifE ((0 : Int) ≤ a3)
        (ifE (a3 < (↑a1.snd.fst.length : Int))
          (impl_AutoNot_L2042 k (a0.fst, a0.snd.fst, a0.snd.snd)
            (a1.fst,
              a1.snd.fst.set a3.toNat
                (match a1.snd.fst.getD a3.toNat false with
                | true => false
                | false => true),
              a1.snd.snd)
            a2 (Go.IntKind.i64.wrap (a3 + (1 : Int))))
          none)
        none)
      none)
    none)
  ((impl_AutoOk k a1.fst a1.snd.fst a1.snd.snd).bind fun x => ifE ((!x) = true) (some (((0 : Int), [], []), false)) (some ((a1.fst, a1.snd.fst, a1.snd.snd), true))) := by kernel_rfl
theorem laws_eqIntS_eq (k : Nat) (a0 : List Int) (a1 : List Int) : laws_eqIntS (k + 1) a0 a1 =
  ifE ((!decide ((↑a0.length : Int) = (↑a1.length : Int))) = true) (some false) (laws_eqIntS_L58 k a0 a1 (0 : Int)) := by kernel_rfl
theorem laws_heldIntS_eq (k : Nat) (a0 : List Int) (a1 : Int) : laws_heldIntS (k + 1) a0 a1 =
  laws_heldIntS_L26 k a0 a1 (0 : Int) := by kernel_rfl
theorem laws_toIntS_L58_eq (k : Nat) (a0 : List Int) (a1 : List Int) (a2 : Int) : laws_toIntS_L58 (k + 1) a0 a1 a2 =
  ifE (decide (a2 < (↑a0.length : Int)) = true) (ifE ((0 : Int) ≤ a2) (ifE (a2 < (↑a0.length : Int)) (ifE ((0 : Int) ≤ a2) (ifE (a2 < (↑a1.length : Int)) (laws_toIntS_L58 k a0 (a1.set a2.toNat (a0.getD a2.toNat (0 : Int))) (Go.IntKind.i64.wrap (a2 + (1 : Int)))) none) none) none) none) (some a1) := by kernel_rfl
theorem slices_IndexFunc_SSint_Sint_L26_eq (k : Nat) (a0 : List (List Int)) (a1 : Int) (a2 : List Bool) (a3 : List (List Int)) (a4 : Int) (a5 : Int) : slices_IndexFunc_SSint_Sint_L26 (k + 1) a0 a1 a2 a3 a4 a5 =
  ifE (decide (a5 < a4) = true) (ifE ((0 : Int) ≤ a5) (ifE (a5 < (↑a0.length : Int)) ((impl_AutoOk_1 k (a0.getD a5.toNat []) a1 a2 a3).bind fun x => ifE (x = true) (some a5) (slices_IndexFunc_SSint_Sint_L26 k a0 a1 a2 a3 a4 (Go.IntKind.i64.wrap (a5 + (1 : Int))))) none) none) (some (Int.negSucc (nat_lit 0))) := by kernel_rfl
theorem laws_eqIntS_L58_eq (k : Nat) (a0 : List Int) (a1 : List Int) (a2 : Int) : laws_eqIntS_L58 (k + 1) a0 a1 a2 =
  ifE (decide (a2 < (↑a0.length : Int)) = true) (ifE ((0 : Int) ≤ a2) (ifE (a2 < (↑a0.length : Int)) (ifE ((0 : Int) ≤ a2) (ifE (a2 < (↑a1.length : Int)) (ifE ((!decide (a0.getD a2.toNat (0 : Int) = a1.getD a2.toNat (0 : Int))) = true) (some false) (laws_eqIntS_L58 k a0 a1 (Go.IntKind.i64.wrap (a2 + (1 : Int))))) none) none) none) none) (some true) := by kernel_rfl
theorem laws_heldIntS_L26_eq (k : Nat) (a0 : List Int) (a1 : Int) (a2 : Int) : laws_heldIntS_L26 (k + 1) a0 a1 a2 =
  ifE (decide (a2 < (↑a0.length : Int)) = true) (ifE ((0 : Int) ≤ a2) (ifE (a2 < (↑a0.length : Int)) (ifE ((!decide (a0.getD a2.toNat (0 : Int) = a1)) = true) (some (Int.negSucc (nat_lit 0))) (laws_heldIntS_L26 k a0 (Go.IntKind.i64.wrap (a1 + (1 : Int))) (Go.IntKind.i64.wrap (a2 + (1 : Int))))) none) none) (some a1) := by kernel_rfl
theorem impl_AutoOk_1_eq (k : Nat) (a0 : List Int) (a1 : Int) (a2 : List Bool) (a3 : List (List Int)) : impl_AutoOk_1 (k + 1) a0 a1 a2 a3 =
  ifE ((!decide ((↑a0.length : Int) = (4 : Int))) = false) ((slices_ContainsFunc_Sint_int k a0 a1 a2 a3).bind fun x => some x) (some true) := by kernel_rfl
theorem slices_ContainsFunc_Sint_int_eq (k : Nat) (a0 : List Int) (a1 : Int) (a2 : List Bool) (a3 : List (List Int)) : slices_ContainsFunc_Sint_int (k + 1) a0 a1 a2 a3 =
  (slices_IndexFunc_Sint_int k a0 a1 a2 a3).bind fun x => some (decide ((0 : Int) ≤ x)) := by kernel_rfl
theorem slices_IndexFunc_Sint_int_eq (k : Nat) (a0 : List Int) (a1 : Int) (a2 : List Bool) (a3 : List (List Int)) : slices_IndexFunc_Sint_int (k + 1) a0 a1 a2 a3 =
  slices_IndexFunc_Sint_int_L26 k a0 a1 a2 a3 (↑a0.length : Int) (0 : Int) := by kernel_rfl
theorem slices_IndexFunc_Sint_int_L26_eq (k : Nat) (a0 : List Int) (a1 : Int) (a2 : List Bool) (a3 : List (List Int)) (a4 : Int) (a5 : Int) : slices_IndexFunc_Sint_int_L26 (k + 1) a0 a1 a2 a3 a4 a5 =
  ifE (decide (a5 < a4) = true) (ifE ((0 : Int) ≤ a5) (ifE (a5 < (↑a0.length : Int)) ((impl_AutoOk_1_1 k (a0.getD a5.toNat (0 : Int)) a1 a2 a3).bind fun x => ifE (x = true) (some a5) (slices_IndexFunc_Sint_int_L26 k a0 a1 a2 a3 a4 (Go.IntKind.i64.wrap (a5 + (1 : Int))))) none) none) (some (Int.negSucc (nat_lit 0))) := by kernel_rfl
theorem impl_AutoOk_1_1_eq (k : Nat) (a0 : Int) (a1 : Int) (a2 : List Bool) (a3 : List (List Int)) : impl_AutoOk_1_1 (k + 1) a0 a1 a2 a3 =
  (impl_Auto_isGoal k a1 a2 a3 a0).bind fun x =>
  some
    (match x with
    | true => false
    | false => true) := by kernel_rfl
theorem impl_Auto_isGoal_eq (k : Nat) (a0 : Int) (a1 : List Bool) (a2 : List (List Int)) (a3 : Int) : impl_Auto_isGoal (k + 1) a0 a1 a2 a3 =
  ifE (decide ((-1 : Int) ≤ a3) = true) (some (decide (a3 < (↑a1.length : Int)))) (some false) := by kernel_rfl
end Go.Proofs.Ytiiefhpoomliaaa.Eq
