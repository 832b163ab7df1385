/- What the program's and the reference's EditsFar answer: the edit distance of the two texts. -/
import Derived.Test.YtilogmimbdpnbaaDoorLev
import Derived.Test.YtilogmimbdpnbaaDoorRFnEditsDo
namespace Go.Proofs.YtilogmimbdpnbaaDoor.DFnEditsDo
open Go.RowKit Go.Proofs.YtilogmimbdpnbaaDoor.PFnEditsDo Go.Proofs.YtilogmimbdpnbaaDoorW.PrintWords Go.Proofs.YtilogmimbdpnbaaDoorW.PrintLast Go.Proofs.YtilogmimbdpnbaaDoor.Ev Go.Proofs.YtilogmimbdpnbaaDoor.Lev
set_option linter.unusedVariables false
set_option linter.unusedSimpArgs false

theorem loop_eq (s : ByteArray) (n : Nat) : ∀ (i : Nat) (acc : List UInt8), s.size - i = n → ByteArray.toList.loop s i acc = acc.reverse ++ s.data.toList.drop i := by
  have hl : s.data.toList.length = s.size := by simp
  induction n with
  | zero =>
    intro i acc h
    unfold ByteArray.toList.loop
    rw [if_neg (by omega), List.drop_eq_nil_of_le (by omega)]
    simp
  | succ n ih =>
    intro i acc h
    unfold ByteArray.toList.loop
    rw [if_pos (by omega), ih (i + 1) _ (by omega), List.drop_eq_getElem_cons (i := i) (by omega)]
    have : s.get! i = s.data.toList[i]'(by omega) := by
      show s.data[i]! = _
      rw [getElem!_pos s.data i (show i < s.data.size by show i < s.size; omega)]
      simp
    rw [this]
    simp
theorem toList_eq (s : ByteArray) : s.toList = s.data.toList := by
  unfold ByteArray.toList
  rw [loop_eq s s.size 0 [] (by omega)]
  simp
def bl (s : ByteArray) : List Int := s.data.toList.map fun x => (x.toNat : Int)
theorem bl_length (s : ByteArray) : (bl s).length = s.size := by simp [bl]
theorem bl_get (s : ByteArray) (i : Nat) (h : i < (bl s).length) : (bl s)[i] = bt s (i : Int) := by
  have h' : i < s.size := by rw [bl_length] at h; exact h
  simp only [bl, List.getElem_map, bt]
  rw [dif_pos (show ((i : Int)).toNat < s.size by simpa using h')]
  simp
  rfl
theorem bl_inj (a b : ByteArray) : a.toList = b.toList ↔ bl a = bl b := by
  rw [toList_eq, toList_eq]
  unfold bl
  constructor
  · intro h; rw [h]
  · intro h
    have : ∀ (x y : List UInt8), x.map (fun x => (x.toNat : Int)) = y.map (fun x => (x.toNat : Int)) → x = y := by
      intro x
      induction x with
      | nil => intro y h; cases y with
        | nil => rfl
        | cons _ _ => simp at h
      | cons u x ih => intro y h; cases y with
        | nil => simp at h
        | cons v y =>
          simp only [List.map_cons, List.cons.injEq] at h
          have h1 : u = v := by
            apply UInt8.toNat_inj.1
            have := h.1
            omega
          rw [h1, ih y h.2]
    exact this _ _ h

def far (a b : ByteArray) : Nat := lev (bl a).reverse (bl b).reverse
def L (a b : ByteArray) (i k : Nat) : Nat := lev ((bl a).take i).reverse ((bl b).take k).reverse
theorem L_0 (a b : ByteArray) (k : Nat) (h : k ≤ b.size) : L a b 0 k = k := by
  have := bl_length b
  simp [L, lev_nil_left]; omega
theorem L_r0 (a b : ByteArray) (i : Nat) (h : i ≤ a.size) : L a b i 0 = i := by
  have := bl_length a
  simp [L, lev_nil_right]; omega
theorem take_rev (a : ByteArray) (i : Nat) (h : i < a.size) : ((bl a).take (i + 1)).reverse = bt a (i : Int) :: ((bl a).take i).reverse := by
  have h' : i < (bl a).length := by rw [bl_length]; exact h
  rw [List.take_succ_eq_append_getElem h', List.reverse_append, bl_get]
  rfl
theorem L_step (a b : ByteArray) (i k : Nat) (h : i < a.size) (h' : k < b.size) :
    L a b (i + 1) (k + 1) = min (L a b i k + (if bt a (i : Int) = bt b (k : Int) then 0 else 1)) (min (L a b i (k + 1) + 1) (L a b (i + 1) k + 1)) := by
  unfold L
  rw [take_rev a i h, take_rev b k h', lev_cons]
theorem L_le (a b : ByteArray) (i k : Nat) (h : i ≤ a.size) (h' : k ≤ b.size) : L a b i k ≤ max i k := by
  have := lev_le_max ((bl a).take i).reverse ((bl b).take k).reverse
  have h1 := bl_length a
  have h2 := bl_length b
  simp only [List.length_reverse, List.length_take] at this
  unfold L
  omega
theorem L_end (a b : ByteArray) : L a b a.size b.size = far a b := by
  unfold L far
  rw [List.take_of_length_le (by rw [bl_length]; omega), List.take_of_length_le (by rw [bl_length]; omega)]

def Row (a b : ByteArray) (i n : Nat) : List Int := (List.range n).map fun k => (L a b i k : Int)
theorem Row_length (a b : ByteArray) (i n : Nat) : (Row a b i n).length = n := by simp [Row]
theorem Row_rd (a b : ByteArray) (i n k : Nat) (h : k < n) : rd (Row a b i n) (k : Int) = L a b i k := by
  unfold rd Row
  rw [List.getD_eq_getElem?_getD, show ((k : Int)).toNat = k by omega]
  simp [h]
theorem Row_succ (a b : ByteArray) (i n : Nat) : Row a b i n ++ [(L a b i n : Int)] = Row a b i (n + 1) := by
  simp [Row, List.range_succ]

/-! the program's -/
theorem il1 (a b : ByteArray) (ha : a.size ≤ 1000) (hb : b.size ≤ 1000) (d : Nat) : ∀ (i : Nat), i + d = a.size →
    EvP (fun k => impl_EditsFar.l1 k a b (Row a b i (b.size + 1)) (a.size : Int) (i : Int)) (fun r => r = (far a b : Int)) := by
  induction d with
  | zero =>
    intro i hi
    refine EvP.step ?_
    simp only [impl_EditsFar.l1]
    refine EvP.no (by omega) (EvP.yes (by omega) (EvP.yes (by rw [Row_length]; omega) (EvP.now ?_)))
    rw [Row_rd a b i (b.size + 1) b.size (by omega)]
    have : i = a.size := by omega
    rw [this, L_end]
  | succ d ih =>
    intro i hi
    have hin : ∀ (e k : Nat), k + e = b.size → EvP (fun n => impl_EditsFar.l2 n a b (Row a b i (b.size + 1)) (i : Int) (Row a b (i + 1) (k + 1)) (a.size : Int) (i : Int) (b.size : Int) (k : Int)) (fun r => r = (far a b : Int)) := by
      intro e
      induction e with
      | zero =>
        intro k hk
        refine EvP.step ?_
        simp only [impl_EditsFar.l2]
        refine EvP.no (by omega) ?_
        rw [w64 (x := (i : Int) + 1) (by omega) (by omega), show k = b.size by omega]
        exact ih (i + 1) (by omega)
      | succ e ih2 =>
        intro k hk
        refine EvP.step ?_
        simp only [impl_EditsFar.l2]
        have hL0 := L_le a b i k (by omega) (by omega)
        have hL1 := L_le a b i (k + 1) (by omega) (by omega)
        have hL2 := L_le a b (i + 1) k (by omega) (by omega)
        have hs := L_step a b i k (by omega) (by omega)
        have e1 := Row_rd a b i (b.size + 1) k (by omega)
        have e2 := Row_rd a b i (b.size + 1) (k + 1) (by omega)
        have e3 := Row_rd a b (i + 1) (k + 1) k (by omega)
        rw [w64 (x := (k : Int) + 1) (by omega) (by omega)]
        refine EvP.yes (by omega) (EvP.yes (by omega) (EvP.yes (by rw [Row_length]; omega) (EvP.yes (by omega) (EvP.yes (by omega) (EvP.yes (by omega) ?_)))))
        have hgo : ∀ v : Int, v = (L a b (i + 1) (k + 1) : Int) → EvP (fun n => impl_EditsFar.l2 n a b (Row a b i (b.size + 1)) (i : Int) (Row a b (i + 1) (k + 1) ++ [v]) (a.size : Int) (i : Int) (b.size : Int) ((k : Int) + 1)) (fun r => r = (far a b : Int)) := by
          intro v hv
          rw [hv, Row_succ]
          exact ih2 (k + 1) (by omega)
        have e2' : rd (Row a b i (b.size + 1)) ((k : Int) + 1) = L a b i (k + 1) := by rw [← e2]; rfl
        refine EvP.ite (fun h => ?_) fun h => ?_
        · refine EvP.yes (by omega) (EvP.yes (by rw [Row_length]; omega) (EvP.yes (by rw [Row_length]; omega) (EvP.yes (by rw [Row_length]; omega) (hgo _ ?_))))
          rw [e1, e2', e3, w64 (x := (L a b i (k + 1) : Int) + 1) (by omega) (by omega), w64 (x := (L a b (i + 1) k : Int) + 1) (by omega) (by omega)]
          rw [if_pos h] at hs
          unfold mn
          omega
        · refine EvP.yes (by omega) (EvP.yes (by rw [Row_length]; omega) (EvP.yes (by rw [Row_length]; omega) (EvP.yes (by rw [Row_length]; omega) (hgo _ ?_))))
          rw [e1, e2', e3, w64 (x := (L a b i (k + 1) : Int) + 1) (by omega) (by omega), w64 (x := (L a b (i + 1) k : Int) + 1) (by omega) (by omega), w64 (x := (L a b i k : Int) + 1) (by omega) (by omega)]
          rw [if_neg h] at hs
          unfold mn
          omega
    refine EvP.step ?_
    simp only [impl_EditsFar.l1]
    refine EvP.yes (by omega) ?_
    rw [w64 (x := (i : Int) + 1) (by omega) (by omega)]
    have h0 : ([(i : Int) + 1] : List Int) = Row a b (i + 1) (0 + 1) := by
      simp [Row, L_r0 a b (i + 1) (by omega)]
    rw [h0]
    exact hin b.size 0 (by omega)
theorem il0 (a b : ByteArray) (ha : a.size ≤ 1000) (hb : b.size ≤ 1000) (d : Nat) : ∀ (i : Nat), i + d = b.size + 1 →
    EvP (fun k => impl_EditsFar.l0 k a b (Row a b 0 i) ((b.size : Int) + 1) (i : Int)) (fun r => r = (far a b : Int)) := by
  induction d with
  | zero =>
    intro i hi
    refine EvP.step ?_
    simp only [impl_EditsFar.l0]
    refine EvP.no (by omega) ?_
    rw [show i = b.size + 1 by omega]
    exact il1 a b ha hb a.size 0 (by omega)
  | succ d ih =>
    intro i hi
    refine EvP.step ?_
    simp only [impl_EditsFar.l0]
    refine EvP.yes (by omega) (EvP.yes (by rw [Row_length]; omega) ?_)
    rw [w64 (x := (i : Int) + 1) (by omega) (by omega)]
    have h0 := Row_succ a b 0 i
    rw [L_0 a b i (by omega)] at h0
    rw [h0]
    exact ih (i + 1) (by omega)
theorem implFar_ev (a b : ByteArray) (ha : a.size ≤ 1000) (hb : b.size ≤ 1000) : EvP (fun k => impl_EditsFar.f k a b) (fun r => r = (far a b : Int)) := by
  unfold impl_EditsFar.f
  rw [w64 (x := (b.size : Int) + 1) (by omega) (by omega)]
  exact il0 a b ha hb (b.size + 1) 0 (by omega)

theorem far_symm (a b : ByteArray) : far a b = far b a := lev_symm _ _
theorem far_tri (a b c : ByteArray) : far a c ≤ far a b + far b c := lev_triangle _ _ _
theorem far_zero (a b : ByteArray) : far a b = 0 ↔ a.toList = b.toList := by
  rw [bl_inj]
  unfold far
  constructor
  · intro h
    exact List.reverse_inj.1 (lev_eq_zero _ _ h)
  · intro h
    rw [h, lev_self]
theorem far_le (a b : ByteArray) : far a b ≤ max a.size b.size := by
  have := lev_le_max (bl a).reverse (bl b).reverse
  simp only [List.length_reverse, bl_length] at this
  exact this
end Go.Proofs.YtilogmimbdpnbaaDoor.DFnEditsDo
