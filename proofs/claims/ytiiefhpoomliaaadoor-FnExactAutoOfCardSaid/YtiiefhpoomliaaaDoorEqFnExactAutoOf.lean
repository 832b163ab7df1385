/- The equations of the functions that the claim reaches, printed by wip/eng/tool: each is the model's code, evaluated. -/
import Derived.Test.YtiiefhpoomliaaaDoorK1
import Derived.Test.YtiiefhpoomliaaaDoorTA
import Derived.Test.YtiiefhpoomliaaaDoorProg
import Derived.KernelRfl
namespace Go.Proofs.YtiiefhpoomliaaaDoor.Eq
open Go Go.Proofs.YtiiefhpoomliaaaDoor.Eng Go.Proofs.YtiiefhpoomliaaaDoor.TA
set_option linter.unusedVariables false
set_option maxRecDepth 100000
noncomputable abbrev sm (k : Nat) : Sm A := sem Tryd.prog A X k
noncomputable def laws_FnExactAutoOf (k : Nat) (a0 : List UInt8) : Option Bool := (sm k).call (nat_lit 3) [V.d Ty.str a0]
noncomputable def spec_AutoOf (k : Nat) (a0 : List UInt8) : Option ((Int × List Bool × List (List Int)) × Bool) := (sm k).call (4 : Nat) [V.d Ty.str a0]
noncomputable def impl_AutoOf (k : Nat) (a0 : List UInt8) : Option ((Int × List Bool × List (List Int)) × Bool) := (sm k).call (5 : Nat) [V.d Ty.str a0]
noncomputable def laws_eqAuto (k : Nat) (a0 : Int) (a1 : List Bool) (a2 : List (List Int)) (a3 : Int) (a4 : List Bool) (a5 : List (List Int)) : Option Bool := (sm k).call (6 : Nat) [V.agg [V.d (Ty.int Go.IntKind.i64) a0, V.d Ty.bool.sl a1, V.d (Ty.int Go.IntKind.i64).sl.sl a2], V.agg [V.d (Ty.int Go.IntKind.i64) a3, V.d Ty.bool.sl a4, V.d (Ty.int Go.IntKind.i64).sl.sl a5]]
noncomputable def laws_heldAuto (k : Nat) (a0 : Int) (a1 : List Bool) (a2 : List (List Int)) (a3 : Int) : Option Int := (sm k).call (8 : Nat) [V.agg [V.d (Ty.int Go.IntKind.i64) a0, V.d Ty.bool.sl a1, V.d (Ty.int Go.IntKind.i64).sl.sl a2], V.d (Ty.int Go.IntKind.i64) a3]
noncomputable def spec_TextOk (k : Nat) (a0 : List UInt8) : Option Bool := (sm k).call (9 : Nat) [V.d Ty.str a0]
noncomputable def spec_AutoOf_L122 (k : Nat) (a0 : List UInt8) (a1 : Int × List Bool × List (List Int)) (a2 : Int × List Bool × List (List Int)) (a3 : Int) : Option ((Int × List Bool × List (List Int)) × Bool) := (sm k).cut (4 : Nat) (nat_lit 122) (a0, a1, a2, a3)
noncomputable def impl_TextOk (k : Nat) (a0 : List UInt8) : Option Bool := (sm k).call (10 : Nat) [V.d Ty.str a0]
noncomputable def impl_AutoOf_L122 (k : Nat) (a0 : List UInt8) (a1 : Int × List Bool × List (List Int)) (a2 : Int × List Bool × List (List Int)) (a3 : Int) (a4 : Int) : Option ((Int × List Bool × List (List Int)) × Bool) := (sm k).cut (5 : Nat) (nat_lit 122) (a0, a1, a2, a3, a4)
noncomputable def laws_eqBoolS (k : Nat) (a0 : List Bool) (a1 : List Bool) : Option Bool := (sm k).call (12 : Nat) [V.d Ty.bool.sl a0, V.d Ty.bool.sl a1]
noncomputable def laws_eqIntSS (k : Nat) (a0 : List (List Int)) (a1 : List (List Int)) : Option Bool := (sm k).call (13 : Nat) [V.d (Ty.int Go.IntKind.i64).sl.sl a0, V.d (Ty.int Go.IntKind.i64).sl.sl a1]
noncomputable def laws_heldBoolS (k : Nat) (a0 : List Bool) (a1 : Int) : Option Int := (sm k).call (16 : Nat) [V.d Ty.bool.sl a0, V.d (Ty.int Go.IntKind.i64) a1]
noncomputable def laws_heldIntSS (k : Nat) (a0 : List (List Int)) (a1 : Int) : Option Int := (sm k).call (17 : Nat) [V.d (Ty.int Go.IntKind.i64).sl.sl a0, V.d (Ty.int Go.IntKind.i64) a1]
noncomputable def spec_TextOk_L26 (k : Nat) (a0 : List UInt8) (a1 : Int) : Option Bool := (sm k).cut (9 : Nat) (nat_lit 26) (a0, a1)
noncomputable def spec_AutoOf_L7827 (k : Nat) (a0 : List UInt8) (a1 : Int × List Bool × List (List Int)) (a2 : Int × List Bool × List (List Int)) (a3 : Int) (a4 : List Int) : Option ((Int × List Bool × List (List Int)) × Bool) := (sm k).cut (4 : Nat) (nat_lit 7827) (a0, a1, a2, a3, a4)
noncomputable def impl_areSmalls (k : Nat) (a0 : List UInt8) (a1 : Int) : Option Bool := (sm k).call (19 : Nat) [V.d Ty.str a0, V.d (Ty.int Go.IntKind.i64) a1]
noncomputable def slices_Repeat_Sint_int (k : Nat) (a0 : List Int) (a1 : Int) : Option (List Int) := (sm k).call (11 : Nat) [V.d (Ty.int Go.IntKind.i64).sl a0, V.d (Ty.int Go.IntKind.i64) a1]
noncomputable def impl_AutoOf_L31335 (k : Nat) (a0 : List UInt8) (a1 : Int × List Bool × List (List Int)) (a2 : Int × List Bool × List (List Int)) (a3 : List Int) (a4 : Int) (a5 : Int) : Option ((Int × List Bool × List (List Int)) × Bool) := (sm k).cut (5 : Nat) (nat_lit 31335) (a0, a1, a2, a3, a4, a5)
noncomputable def laws_eqBoolS_L58 (k : Nat) (a0 : List Bool) (a1 : List Bool) (a2 : Int) : Option Bool := (sm k).cut (12 : Nat) (nat_lit 58) (a0, a1, a2)
noncomputable def laws_eqIntSS_L58 (k : Nat) (a0 : List (List Int)) (a1 : List (List Int)) (a2 : Int) : Option Bool := (sm k).cut (13 : Nat) (nat_lit 58) (a0, a1, a2)
noncomputable def laws_heldBoolS_L26 (k : Nat) (a0 : List Bool) (a1 : Int) (a2 : Int) : Option Int := (sm k).cut (16 : Nat) (nat_lit 26) (a0, a1, a2)
noncomputable def laws_heldIntSS_L26 (k : Nat) (a0 : List (List Int)) (a1 : Int) (a2 : Int) : Option Int := (sm k).cut (17 : Nat) (nat_lit 26) (a0, a1, a2)
noncomputable def spec_l1Small (k : Nat) (a0 : Int) : Option Bool := (sm k).call (18 : Nat) [V.d (Ty.int Go.IntKind.u8) a0]
noncomputable def strings_Trim (k : Nat) (a0 : List UInt8) (a1 : List UInt8) : Option (List UInt8) := (sm k).call (24 : Nat) [V.d Ty.str a0, V.d Ty.str a1]
noncomputable def laws_eqIntS (k : Nat) (a0 : List Int) (a1 : List Int) : Option Bool := (sm k).call (21 : Nat) [V.d (Ty.int Go.IntKind.i64).sl a0, V.d (Ty.int Go.IntKind.i64).sl a1]
noncomputable def laws_heldIntS (k : Nat) (a0 : List Int) (a1 : Int) : Option Int := (sm k).call (23 : Nat) [V.d (Ty.int Go.IntKind.i64).sl a0, V.d (Ty.int Go.IntKind.i64) a1]
noncomputable def laws_eqIntS_L58 (k : Nat) (a0 : List Int) (a1 : List Int) (a2 : Int) : Option Bool := (sm k).cut (21 : Nat) (nat_lit 58) (a0, a1, a2)
noncomputable def laws_heldIntS_L26 (k : Nat) (a0 : List Int) (a1 : Int) (a2 : Int) : Option Int := (sm k).cut (23 : Nat) (nat_lit 26) (a0, a1, a2)
theorem laws_FnExactAutoOf_eq (k : Nat) (a0 : List UInt8) : laws_FnExactAutoOf (k + 1) a0 =
  ifE (decide ((1048576 : Int) < (↑a0.length : Int)) = true) (some true) ((spec_AutoOf k a0).bind fun x => (impl_AutoOf k a0).bind fun x_1 => (laws_eqAuto k x_1.fst.fst x_1.fst.snd.fst x_1.fst.snd.snd x.fst.fst x.fst.snd.fst x.fst.snd.snd).bind fun x_2 => ifE ((!x_2) = false) (ifE ((!decide (x_1.snd = x.snd)) = true) (some false) (ifE ((0 : Int) ≤ (1 : Int) ∧ (1 : Int) + (↑(List.length x_1.fst.snd.fst + lenG x_1.fst.snd.snd) : Int) ≤ (1099511627776 : Int)) ((laws_heldAuto k x_1.fst.fst (markB (1 : Int) x_1.fst.snd.fst) (markG ((1 : Int) + (↑(List.length x_1.fst.snd.fst) : Int)) x_1.fst.snd.snd) (1 : Int)).bind fun x_3 => ifE (decide (x_3 < (0 : Int)) = true) (some false) (ifE ((!decide (x_3 = (1 : Int) + (↑(List.length x_1.fst.snd.fst + lenG x_1.fst.snd.snd) : Int))) = true) (some false) ((impl_AutoOf k a0).bind fun x_4 => (laws_eqAuto k x_4.fst.fst x_4.fst.snd.fst x_4.fst.snd.snd x.fst.fst x.fst.snd.fst x.fst.snd.snd).bind fun x_5 => ifE ((!x_5) = false) (ifE ((!decide (x_4.snd = x.snd)) = true) (some false) ((laws_heldAuto k x_1.fst.fst (markB (1 : Int) x_1.fst.snd.fst) (markG ((1 : Int) + (↑(List.length x_1.fst.snd.fst) : Int)) x_1.fst.snd.snd) (1 : Int)).bind fun x => ifE (decide (x < (0 : Int)) = true) (some false) (ifE ((!decide (x = (1 : Int) + (↑(List.length x_1.fst.snd.fst + lenG x_1.fst.snd.snd) : Int))) = true) (some false) (some true)))) (some false)))) none)) (some false)) := by kernel_rfl
theorem spec_AutoOf_eq (k : Nat) (a0 : List UInt8) : spec_AutoOf (k + 1) a0 =
  (spec_TextOk k a0).bind fun x => ifE ((!x) = false) (ifE (decide ((6 : Int) ≤ (↑a0.length : Int)) = true) (some (((0 : Int), [], []), false)) (spec_AutoOf_L122 k a0 ((0 : Int), [], []) ((0 : Int), [], []) (0 : Int))) (some (((0 : Int), [], []), false)) := by kernel_rfl
theorem impl_AutoOf_eq (k : Nat) (a0 : List UInt8) : impl_AutoOf (k + 1) a0 =
  (impl_TextOk k a0).bind fun x => ifE ((!x) = false) (ifE (decide ((6 : Int) ≤ (↑a0.length : Int)) = true) (some (((0 : Int), [], []), false)) (ifE (Go.IntKind.i64.wrap ((↑a0.length : Int) + (1 : Int)) = Go.IntKind.i64.wrap ((↑a0.length : Int) + (1 : Int))) (ifE ((0 : Int) ≤ Go.IntKind.i64.wrap ((↑a0.length : Int) + (1 : Int))) (ifE (Go.IntKind.i64.wrap ((↑a0.length : Int) + (1 : Int)) < (↑maxLenE : Int)) (impl_AutoOf_L122 k a0 ((0 : Int), [], []) ((0 : Int), List.replicate (Go.IntKind.i64.wrap ((↑a0.length : Int) + (1 : Int))).toNat false, []) (Go.IntKind.i64.wrap ((↑a0.length : Int) + (1 : Int))) (0 : Int)) none) none) none)) (some (((0 : Int), [], []), false)) := by kernel_rfl
theorem laws_eqAuto_eq (k : Nat) (a0 : Int) (a1 : List Bool) (a2 : List (List Int)) (a3 : Int) (a4 : List Bool) (a5 : List (List Int)) : laws_eqAuto (k + 1) a0 a1 a2 a3 a4 a5 =
  ifE ((!decide (a0 = a3)) = true) (some false) ((laws_eqBoolS k a1 a4).bind fun x => ifE ((!x) = true) (some false) ((laws_eqIntSS k a2 a5).bind fun x => ifE ((!x) = true) (some false) (some true))) := by kernel_rfl
theorem laws_heldAuto_eq (k : Nat) (a0 : Int) (a1 : List Bool) (a2 : List (List Int)) (a3 : Int) : laws_heldAuto (k + 1) a0 a1 a2 a3 =
  (laws_heldBoolS k a1 a3).bind fun x => ifE (decide (x < (0 : Int)) = true) (some (Int.negSucc (nat_lit 0))) ((laws_heldIntSS k a2 x).bind fun x => ifE (decide (x < (0 : Int)) = true) (some (Int.negSucc (nat_lit 0))) (some x)) := by kernel_rfl
theorem spec_TextOk_eq (k : Nat) (a0 : List UInt8) : spec_TextOk (k + 1) a0 =
  spec_TextOk_L26 k a0 (0 : Int) := by kernel_rfl
theorem spec_AutoOf_L122_eq (k : Nat) (a0 : List UInt8) (a1 : Int × List Bool × List (List Int)) (a2 : Int × List Bool × List (List Int)) (a3 : Int) : spec_AutoOf_L122 (k + 1) a0 a1 a2 a3 =
  ifE (decide (a3 ≤ (↑a0.length : Int)) = true) (ifE (decide (a3 < (↑a0.length : Int)) = true) (ifE ((0 : Int) ≤ a3) (ifE (a3 < (↑a0.length : Int)) (ifE ((0 : Int) ≤ Go.IntKind.i64.wrap (Go.IntKind.u8.wrap ((↑(a0.getD a3.toNat (0 : UInt8)).toNat : Int) - (97 : Int)))) (ifE (Go.IntKind.i64.wrap (Go.IntKind.u8.wrap ((↑(a0.getD a3.toNat (0 : UInt8)).toNat : Int) - (97 : Int))) < (↑[(-1 : Int), (-1 : Int), (-1 : Int), (-1 : Int)].length : Int)) (spec_AutoOf_L7827 k a0 (a1.fst, a1.snd.fst, a1.snd.snd) (a2.fst, a2.snd.fst, a2.snd.snd) a3 ([(-1 : Int), (-1 : Int), (-1 : Int), (-1 : Int)].set (Go.IntKind.i64.wrap (Go.IntKind.u8.wrap ((↑(a0.getD a3.toNat (0 : UInt8)).toNat : Int) - (97 : Int)))).toNat (Go.IntKind.i64.wrap (a3 + (1 : Int))))) none) none) none) none) (spec_AutoOf_L7827 k a0 (a1.fst, a1.snd.fst, a1.snd.snd) (a2.fst, a2.snd.fst, a2.snd.snd) a3 [(-1 : Int), (-1 : Int), (-1 : Int), (-1 : Int)])) (some ((a2.fst, a2.snd.fst, a2.snd.snd), true)) := by kernel_rfl
theorem impl_TextOk_eq (k : Nat) (a0 : List UInt8) : impl_TextOk (k + 1) a0 =
  (impl_areSmalls k a0 (8 : Int)).bind fun x => some x := by kernel_rfl
theorem impl_AutoOf_L122_eq (k : Nat) (a0 : List UInt8) (a1 : Int × List Bool × List (List Int)) (a2 : Int × List Bool × List (List Int)) (a3 : Int) (a4 : Int) : impl_AutoOf_L122 (k + 1) a0 a1 a2 a3 a4 =
  ifE (decide (a4 < a3) = true) ((slices_Repeat_Sint_int k [(-1 : Int)] (4 : Int)).bind fun x => ifE (decide (a4 < (↑a0.length : Int)) = true) (ifE ((0 : Int) ≤ a4) (ifE (a4 < (↑a0.length : Int)) (ifE ((0 : Int) ≤ Go.IntKind.u8.wrap ((↑(a0.getD a4.toNat (0 : UInt8)).toNat : Int) - (97 : Int))) (ifE (Go.IntKind.u8.wrap ((↑(a0.getD a4.toNat (0 : UInt8)).toNat : Int) - (97 : Int)) < (↑(List.length x) : Int)) (impl_AutoOf_L31335 k a0 (a1.fst, a1.snd.fst, a1.snd.snd) (a2.fst, a2.snd.fst, a2.snd.snd) (List.set x (Go.IntKind.u8.wrap ((↑(a0.getD a4.toNat (0 : UInt8)).toNat : Int) - (97 : Int))).toNat (Go.IntKind.i64.wrap (a4 + (1 : Int)))) a3 a4) none) none) none) none) (ifE ((0 : Int) ≤ a4) (ifE (a4 < (↑a2.snd.fst.length : Int)) (impl_AutoOf_L31335 k a0 (a1.fst, a1.snd.fst, a1.snd.snd) (a2.fst, a2.snd.fst.set a4.toNat true, a2.snd.snd) x a3 a4) none) none)) (some ((a2.fst, a2.snd.fst, a2.snd.snd), true)) := by kernel_rfl
theorem laws_eqBoolS_eq (k : Nat) (a0 : List Bool) (a1 : List Bool) : laws_eqBoolS (k + 1) a0 a1 =
  ifE ((!decide ((↑a0.length : Int) = (↑a1.length : Int))) = true) (some false) (laws_eqBoolS_L58 k a0 a1 (0 : Int)) := by kernel_rfl
theorem laws_eqIntSS_eq (k : Nat) (a0 : List (List Int)) (a1 : List (List Int)) : laws_eqIntSS (k + 1) a0 a1 =
  ifE ((!decide ((↑a0.length : Int) = (↑a1.length : Int))) = true) (some false) (laws_eqIntSS_L58 k a0 a1 (0 : Int)) := by kernel_rfl
theorem laws_heldBoolS_eq (k : Nat) (a0 : List Bool) (a1 : Int) : laws_heldBoolS (k + 1) a0 a1 =
  laws_heldBoolS_L26 k a0 a1 (0 : Int) := by kernel_rfl
theorem laws_heldIntSS_eq (k : Nat) (a0 : List (List Int)) (a1 : Int) : laws_heldIntSS (k + 1) a0 a1 =
  laws_heldIntSS_L26 k a0 a1 (0 : Int) := by kernel_rfl
theorem spec_TextOk_L26_eq (k : Nat) (a0 : List UInt8) (a1 : Int) : spec_TextOk_L26 (k + 1) a0 a1 =
  ifE (decide (a1 < (↑a0.length : Int)) = true) (ifE ((0 : Int) ≤ a1) (ifE (a1 < (↑a0.length : Int)) ((spec_l1Small k (↑(a0.getD a1.toNat (0 : UInt8)).toNat : Int)).bind fun x => ifE ((!x) = true) (some false) (spec_TextOk_L26 k a0 (Go.IntKind.i64.wrap (a1 + (1 : Int))))) none) none) (some (decide ((↑a0.length : Int) ≤ (8 : Int)))) := by kernel_rfl
theorem spec_AutoOf_L7827_eq (k : Nat) (a0 : List UInt8) (a1 : Int × List Bool × List (List Int)) (a2 : Int × List Bool × List (List Int)) (a3 : Int) (a4 : List Int) : spec_AutoOf_L7827 (k + 1) a0 a1 a2 a3 a4 =
  ifE (a2.snd.fst.length + [decide (a3 = (↑a0.length : Int))].length < maxLenE) (ifE (a2.snd.snd.length + [a4].length < maxLenE) (spec_AutoOf_L122 k a0 (a1.fst, a1.snd.fst, a1.snd.snd) (a2.fst, a2.snd.fst ++ [decide (a3 = (↑a0.length : Int))], a2.snd.snd ++ [a4]) (Go.IntKind.i64.wrap (a3 + (1 : Int)))) none) none := by kernel_rfl
theorem impl_areSmalls_eq (k : Nat) (a0 : List UInt8) (a1 : Int) : impl_areSmalls (k + 1) a0 a1 =
  ifE (decide ((↑a0.length : Int) ≤ a1) = true) ((strings_Trim k a0 (ByteArray.mk #[(97 : UInt8), (98 : UInt8), (99 : UInt8), (100 : UInt8)]).data.toList).bind fun x => some (decide (x = (ByteArray.mk #[]).data.toList))) (some false) := by kernel_rfl
theorem slices_Repeat_Sint_int_eq (k : Nat) (a0 : List Int) (a1 : Int) : slices_Repeat_Sint_int (k + 1) a0 a1 =
  ifE (a0.length = (1 : Nat) ∧ (1 : Int) ≤ a1 ∧ a1 ≤ (1000000 : Int)) (some (List.replicate a1.toNat (a0.getD (0 : Nat) (0 : Int)))) none := by kernel_rfl
theorem impl_AutoOf_L31335_eq (k : Nat) (a0 : List UInt8) (a1 : Int × List Bool × List (List Int)) (a2 : Int × List Bool × List (List Int)) (a3 : List Int) (a4 : Int) (a5 : Int) : impl_AutoOf_L31335 (k + 1) a0 a1 a2 a3 a4 a5 =
  ifE (a2.snd.snd.length + [a3].length < maxLenE) (impl_AutoOf_L122 k a0 (a1.fst, a1.snd.fst, a1.snd.snd) (a2.fst, a2.snd.fst, a2.snd.snd ++ [a3]) a4 (Go.IntKind.i64.wrap (a5 + (1 : Int)))) none := by kernel_rfl
theorem laws_eqBoolS_L58_eq (k : Nat) (a0 : List Bool) (a1 : List Bool) (a2 : Int) : laws_eqBoolS_L58 (k + 1) a0 a1 a2 =
  ifE (decide (a2 < (↑a0.length : Int)) = true) (ifE ((0 : Int) ≤ a2) (ifE (a2 < (↑a0.length : Int)) (ifE ((0 : Int) ≤ a2) (ifE (a2 < (↑a1.length : Int)) (ifE ((!decide (a0.getD a2.toNat false = a1.getD a2.toNat false)) = true) (some false) (laws_eqBoolS_L58 k a0 a1 (Go.IntKind.i64.wrap (a2 + (1 : Int))))) none) none) none) none) (some true) := by kernel_rfl
theorem laws_eqIntSS_L58_eq (k : Nat) (a0 : List (List Int)) (a1 : List (List Int)) (a2 : Int) : laws_eqIntSS_L58 (k + 1) a0 a1 a2 =
  ifE (decide (a2 < (↑a0.length : Int)) = true) (ifE ((0 : Int) ≤ a2) (ifE (a2 < (↑a0.length : Int)) (ifE ((0 : Int) ≤ a2) (ifE (a2 < (↑a1.length : Int)) ((laws_eqIntS k (a0.getD a2.toNat []) (a1.getD a2.toNat [])).bind fun x => ifE ((!x) = true) (some false) (laws_eqIntSS_L58 k a0 a1 (Go.IntKind.i64.wrap (a2 + (1 : Int))))) none) none) none) none) (some true) := by kernel_rfl
theorem laws_heldBoolS_L26_eq (k : Nat) (a0 : List Bool) (a1 : Int) (a2 : Int) : laws_heldBoolS_L26 (k + 1) a0 a1 a2 =
  ifE (decide (a2 < (↑a0.length : Int)) = true) (ifE ((0 : Int) ≤ a2) (ifE (a2 < (↑a0.length : Int)) (ifE ((!decide (a0.getD a2.toNat false = decide (a1.tmod (3 : Int) = (0 : Int)))) = true) (some (Int.negSucc (nat_lit 0))) (laws_heldBoolS_L26 k a0 (Go.IntKind.i64.wrap (a1 + (1 : Int))) (Go.IntKind.i64.wrap (a2 + (1 : Int))))) none) none) (some a1) := by kernel_rfl
theorem laws_heldIntSS_L26_eq (k : Nat) (a0 : List (List Int)) (a1 : Int) (a2 : Int) : laws_heldIntSS_L26 (k + 1) a0 a1 a2 =
  ifE (decide (a2 < (↑a0.length : Int)) = true) (ifE ((0 : Int) ≤ a2) (ifE (a2 < (↑a0.length : Int)) ((laws_heldIntS k (a0.getD a2.toNat []) a1).bind fun x => ifE (decide (x < (0 : Int)) = true) (some (Int.negSucc (nat_lit 0))) (laws_heldIntSS_L26 k a0 x (Go.IntKind.i64.wrap (a2 + (1 : Int))))) none) none) (some a1) := by kernel_rfl
theorem spec_l1Small_eq (k : Nat) (a0 : Int) : spec_l1Small (k + 1) a0 =
  ifE (decide ((97 : Int) ≤ a0) = true) (some (decide (a0 ≤ (100 : Int)))) (some false) := by kernel_rfl
theorem strings_Trim_eq (k : Nat) (a0 : List UInt8) (a1 : List UInt8) : strings_Trim (k + 1) a0 a1 =
  ifE (a0.length ≤ (9223372036854775807 : Nat) ∧ a1.length < (4294967281 : Nat) ∧ (a1.all fun b => decide (b.toNat < (128 : Nat))) = true) (some (trimE a0 a1)) none := by kernel_rfl
theorem laws_eqIntS_eq (k : Nat) (a0 : List Int) (a1 : List Int) : laws_eqIntS (k + 1) a0 a1 =
  ifE ((!decide ((↑a0.length : Int) = (↑a1.length : Int))) = true) (some false) (laws_eqIntS_L58 k a0 a1 (0 : Int)) := by kernel_rfl
theorem laws_heldIntS_eq (k : Nat) (a0 : List Int) (a1 : Int) : laws_heldIntS (k + 1) a0 a1 =
  laws_heldIntS_L26 k a0 a1 (0 : Int) := by kernel_rfl
theorem laws_eqIntS_L58_eq (k : Nat) (a0 : List Int) (a1 : List Int) (a2 : Int) : laws_eqIntS_L58 (k + 1) a0 a1 a2 =
  ifE (decide (a2 < (↑a0.length : Int)) = true) (ifE ((0 : Int) ≤ a2) (ifE (a2 < (↑a0.length : Int)) (ifE ((0 : Int) ≤ a2) (ifE (a2 < (↑a1.length : Int)) (ifE ((!decide (a0.getD a2.toNat (0 : Int) = a1.getD a2.toNat (0 : Int))) = true) (some false) (laws_eqIntS_L58 k a0 a1 (Go.IntKind.i64.wrap (a2 + (1 : Int))))) none) none) none) none) (some true) := by kernel_rfl
theorem laws_heldIntS_L26_eq (k : Nat) (a0 : List Int) (a1 : Int) (a2 : Int) : laws_heldIntS_L26 (k + 1) a0 a1 a2 =
  ifE (decide (a2 < (↑a0.length : Int)) = true) (ifE ((0 : Int) ≤ a2) (ifE (a2 < (↑a0.length : Int)) (ifE ((!decide (a0.getD a2.toNat (0 : Int) = a1)) = true) (some (Int.negSucc (nat_lit 0))) (laws_heldIntS_L26 k a0 (Go.IntKind.i64.wrap (a1 + (1 : Int))) (Go.IntKind.i64.wrap (a2 + (1 : Int))))) none) none) (some a1) := by kernel_rfl
end Go.Proofs.YtiiefhpoomliaaaDoor.Eq
