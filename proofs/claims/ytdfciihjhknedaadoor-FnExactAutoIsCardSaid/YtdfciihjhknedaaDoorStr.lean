/- Strings as lists of bytes; strings.Trim's answer is empty just if every byte is of the set. -/
import Derived.Test.YtdfciihjhknedaaDoorWMore
import Derived.Lib.SlTrimSet
namespace Go.Proofs.YtdfciihjhknedaaDoor.Str
open Go.RowKit Go.Proofs.YtdfciihjhknedaaDoorW.PrintWords Go.Proofs.YtdfciihjhknedaaDoorW.PrintLast Go.Proofs.YtdfciihjhknedaaDoorW.PrintMore
set_option linter.unusedVariables false
set_option linter.unusedSimpArgs false

theorem loop_eq' (s : ByteArray) (n : Nat) : ∀ (i : Nat) (acc : List UInt8), s.size - i = n → ByteArray.toList.loop s i acc = acc.reverse ++ s.data.toList.drop i := by
  have hl : s.data.toList.length = s.size := by simp
  induction n with
  | zero =>
    intro i acc h
    unfold ByteArray.toList.loop
    rw [if_neg (by omega), List.drop_eq_nil_of_le (by omega)]
    simp
  | succ n ih =>
    intro i acc h
    unfold ByteArray.toList.loop
    rw [if_pos (by omega), ih (i + 1) _ (by omega), List.drop_eq_getElem_cons (i := i) (by omega)]
    have : s.get! i = s.data.toList[i]'(by omega) := by
      show s.data[i]! = _
      rw [getElem!_pos s.data i (show i < s.data.size by show i < s.size; omega)]
      simp
    rw [this]
    simp
theorem tl (s : ByteArray) : s.toList = s.data.toList := by
  unfold ByteArray.toList
  rw [loop_eq' s s.size 0 [] (by omega)]
  simp
theorem len_tl (s : ByteArray) : s.data.toList.length = s.size := by simp
theorem ext_inj (a b : ByteArray) (h : a.data.toList = b.data.toList) : a = b := by
  cases a; cases b
  simp only [ByteArray.mk.injEq]
  exact Array.toList_inj.1 h
theorem tl_inj {a b : ByteArray} (h : a.toList = b.toList) : a = b := ext_inj a b (by rw [← tl, ← tl, h])
theorem bt_tl (s : ByteArray) (i : Nat) (h : i < s.size) : bt s (i : Int) = ((s.data.toList[i]'(by rw [len_tl]; exact h)).toNat : Int) := by
  unfold bt
  rw [dif_pos (show ((i : Int)).toNat < s.size by simpa using h)]
  simp
  rfl
theorem drop_cons (t : ByteArray) (i : Nat) (h : i < t.size) : t.data.toList.drop i = (t.data.toList[i]'(by rw [len_tl]; exact h)) :: t.data.toList.drop (i + 1) :=
  List.drop_eq_getElem_cons _
theorem trim_nil (l cs : List UInt8) : Lib.trimS l cs = [] ↔ ∀ x ∈ l, x ∈ cs := by
  have hd : ∀ (m : List UInt8), m.dropWhile (cs.contains ·) = [] ↔ ∀ x ∈ m, x ∈ cs := by
    intro m
    induction m with
    | nil => simp
    | cons x m ih =>
      rw [List.dropWhile_cons]
      by_cases h : cs.contains x = true
      · rw [if_pos h, ih]
        simp [List.contains_iff_mem.1 h]
      · rw [if_neg h]
        simp only [reduceCtorEq, false_iff]
        intro h'
        exact h (List.contains_iff_mem.2 (h' x (by simp)))
  unfold Lib.trimS Lib.trimLeftS Lib.trimRightS
  rw [hd]
  constructor
  · intro h
    by_cases h' : ∀ x ∈ l, x ∈ cs
    · exact h'
    · exfalso
      have hne : l.reverse.dropWhile (cs.contains ·) ≠ [] := fun e => h' fun x hx => (hd _).1 e x (by simpa using hx)
      have hx := List.head_dropWhile_not (fun x => cs.contains x) hne
      have hm := h ((l.reverse.dropWhile (cs.contains ·)).head hne) (by simp)
      rw [List.contains_iff_mem.2 hm] at hx
      cases hx
  · intro h x hx
    rw [List.mem_reverse] at hx
    have := List.dropWhile_subset _ hx
    exact h x (by simpa using this)
end Go.Proofs.YtdfciihjhknedaaDoor.Str
