/- What TextOk, the program's and the reference's, answer: at most eight bytes, each a small sign. -/
import Derived.Test.YtdfciihjhknedaaDoorEv
import Derived.Test.YtdfciihjhknedaaDoorStr
import Derived.Test.YtdfciihjhknedaaDoorQFnExactAutoIsx5
namespace Go.Proofs.YtdfciihjhknedaaDoor.DFnExactAutoIs
open Go.RowKit Go.Proofs.YtdfciihjhknedaaDoor.PFnExactAutoIs Go.Proofs.YtdfciihjhknedaaDoorW.PrintWords Go.Proofs.YtdfciihjhknedaaDoorW.PrintLast Go.Proofs.YtdfciihjhknedaaDoor.Ev Go.Proofs.YtdfciihjhknedaaDoor.Str
set_option linter.unusedVariables false
set_option linter.unusedSimpArgs false

def smallB (b : UInt8) : Bool := decide (97 ≤ b.toNat ∧ b.toNat ≤ 100)
def smallR (l : List UInt8) : Bool := l.all smallB
theorem mem_smalls (x : UInt8) : x ∈ ([97, 98, 99, 100] : List UInt8) ↔ smallB x = true := by
  unfold smallB
  simp only [List.mem_cons, List.not_mem_nil, or_false, decide_eq_true_eq]
  constructor
  · rintro (rfl | rfl | rfl | rfl) <;> decide
  · intro h
    have : x.toNat = 97 ∨ x.toNat = 98 ∨ x.toNat = 99 ∨ x.toNat = 100 := by omega
    rcases this with e | e | e | e
    · exact .inl (UInt8.toNat_inj.1 e)
    · exact .inr (.inl (UInt8.toNat_inj.1 e))
    · exact .inr (.inr (.inl (UInt8.toNat_inj.1 e)))
    · exact .inr (.inr (.inr (UInt8.toNat_inj.1 e)))
theorem smalls_val (t : ByteArray) (n : Int) (ht : t.size ≤ 1048576) : impl_areSmalls.f t n = some (decide ((t.size : Int) ≤ n) && smallR t.data.toList) := by
  unfold impl_areSmalls.f
  by_cases h : (t.size : Int) ≤ n
  · rw [if_pos h]
    unfold strings_Trim.f
    rw [if_pos ⟨by omega, by decide, by decide⟩]
    simp only [Option.bind_some]
    rw [tl]
    congr 1
    have e1 : ((⟨(Lib.trimS t.data.toList (⟨#[97, 98, 99, 100]⟩ : ByteArray).data.toList).toArray⟩ : ByteArray).data.toList) = Lib.trimS t.data.toList [97, 98, 99, 100] := by simp
    rw [e1]
    have hi := trim_nil t.data.toList [97, 98, 99, 100]
    have hsm : (∀ x ∈ t.data.toList, x ∈ ([97, 98, 99, 100] : List UInt8)) ↔ smallR t.data.toList = true := by
      unfold smallR
      rw [List.all_eq_true]
      exact ⟨fun h x hm => (mem_smalls x).1 (h x hm), fun h x hm => (mem_smalls x).2 (h x hm)⟩
    rw [hsm] at hi
    simp only [h, decide_true, Bool.true_and]
    cases hs : smallR t.data.toList with
    | true => rw [hi.2 hs]; rfl
    | false =>
      have : Lib.trimS t.data.toList [97, 98, 99, 100] ≠ [] := fun e => by rw [hi.1 e] at hs; cases hs
      exact beq_eq_false_iff_ne.2 this
  · rw [if_neg h]
    simp [h]
def textOk (t : ByteArray) : Bool := decide ((t.size : Int) ≤ 8) && smallR t.data.toList
theorem implText_val (t : ByteArray) (ht : t.size ≤ 1048576) : impl_TextOk.f t = some (textOk t) := by
  unfold impl_TextOk.f
  rw [smalls_val t 8 ht]
  rfl
theorem specText_l0 (t : ByteArray) (ht : t.size ≤ 1048576) (d : Nat) : ∀ (i : Nat), i + d = t.size →
    EvP (fun k => spec_TextOk.l0 k t (i : Int)) (fun r => r = (smallR (t.data.toList.drop i) && decide ((t.size : Int) ≤ 8))) := by
  induction d with
  | zero =>
    intro i hd
    refine EvP.step ?_
    simp only [spec_TextOk.l0]
    refine EvP.no (by omega) (EvP.now ?_)
    rw [List.drop_eq_nil_of_le (by rw [len_tl]; omega)]
    rfl
  | succ d ih =>
    intro i hd
    refine EvP.step ?_
    simp only [spec_TextOk.l0]
    refine EvP.yes (by omega) (EvP.yes (by omega) ?_)
    rw [w64 (x := (i : Int) + 1) (by omega) (by omega), drop_cons t i (by omega)]
    have hb := bt_tl t i (by omega)
    generalize (t.data.toList[i]'(by rw [len_tl]; omega)) = c at hb
    have hsm : spec_l1Small.f (bt t (i : Int)) = some (smallB c) := by
      unfold spec_l1Small.f smallB
      rw [hb]
      by_cases h1 : (c.toNat : Int) ≥ 97
      · rw [if_pos h1]
        congr 1
        by_cases h2 : (c.toNat : Int) ≤ 100
        · rw [decide_eq_true h2, decide_eq_true (by omega)]
        · rw [decide_eq_false h2, decide_eq_false (by omega)]
      · rw [if_neg h1, decide_eq_false (by omega)]
    rw [hsm]
    refine EvP.bindSome ?_
    refine EvP.ite (fun h => (ih (i + 1) (by omega)).mono fun r hr => ?_) fun h => EvP.now ?_
    · rw [hr]
      simp [smallR, h]
    · simp [smallR, h]
theorem specText_v (t : ByteArray) (ht : t.size ≤ 1048576) : EvP (fun k => spec_TextOk.f k t) (fun r => r = textOk t) := by
  unfold spec_TextOk.f
  refine (specText_l0 t ht t.size 0 (by omega)).mono fun r hr => ?_
  rw [hr, List.drop_zero, Bool.and_comm]
  rfl
end Go.Proofs.YtdfciihjhknedaaDoor.DFnExactAutoIs
