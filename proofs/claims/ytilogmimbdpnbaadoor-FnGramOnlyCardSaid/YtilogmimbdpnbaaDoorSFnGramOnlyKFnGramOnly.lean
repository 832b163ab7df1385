/- YtilogmimbdpnbaaDoorSFnGramOnlyKFnGramOnly: a text of FnGramOnly's claim, out of the kit's print, cut down to what is used. -/
import Derived.Test.YtilogmimbdpnbaaDoorSFnGramOnlyGFnGramOnly
import Derived.Lib.SlTrimSet
namespace Go.Proofs.YtilogmimbdpnbaaDoor.DFnGramOnly
open Go.RowKit Go.Proofs.YtilogmimbdpnbaaDoor.PFnGramOnly Go.Proofs.YtilogmimbdpnbaaDoorW.PrintWords Go.Proofs.YtilogmimbdpnbaaDoorW.PrintLast Go.Proofs.YtilogmimbdpnbaaDoor.Ev
set_option linter.unusedVariables false
set_option linter.unusedSimpArgs false
theorem loop_eq' (s : ByteArray) (n : Nat) : ∀ (i : Nat) (acc : List UInt8), s.size - i = n → ByteArray.toList.loop s i acc = acc.reverse ++ s.data.toList.drop i := by
  have hl : s.data.toList.length = s.size := by simp
  induction n with
  | zero =>
    intro i acc h
    unfold ByteArray.toList.loop
    rw [if_neg (by omega), List.drop_eq_nil_of_le (by omega)]
    simp
  | succ n ih =>
    intro i acc h
    unfold ByteArray.toList.loop
    rw [if_pos (by omega), ih (i + 1) _ (by omega), List.drop_eq_getElem_cons (i := i) (by omega)]
    have : s.get! i = s.data.toList[i]'(by omega) := by
      show s.data[i]! = _
      rw [getElem!_pos s.data i (show i < s.data.size by show i < s.size; omega)]
      simp
    rw [this]
    simp
theorem tl (s : ByteArray) : s.toList = s.data.toList := by
  unfold ByteArray.toList
  rw [loop_eq' s s.size 0 [] (by omega)]
  simp
theorem len_tl (s : ByteArray) : s.data.toList.length = s.size := by simp
theorem ext_inj (a b : ByteArray) (h : a.data.toList = b.data.toList) : a = b := by
  cases a; cases b
  simp only [ByteArray.mk.injEq]
  exact Array.toList_inj.1 h
theorem tl_inj {a b : ByteArray} (h : a.toList = b.toList) : a = b := ext_inj a b (by rw [← tl, ← tl, h])
theorem bt_tl (s : ByteArray) (i : Nat) (h : i < s.size) : bt s (i : Int) = ((s.data.toList[i]'(by rw [len_tl]; exact h)).toNat : Int) := by
  unfold bt
  rw [dif_pos (show ((i : Int)).toNat < s.size by simpa using h)]
  simp
  rfl
theorem drop_cons (t : ByteArray) (i : Nat) (h : i < t.size) : t.data.toList.drop i = (t.data.toList[i]'(by rw [len_tl]; exact h)) :: t.data.toList.drop (i + 1) :=
  List.drop_eq_getElem_cons _
def isB (lo hi : Int) (s : ByteArray) : Bool := decide (s.size = 1 ∧ lo ≤ bt s 0 ∧ bt s 0 ≤ hi)
theorem isIn_val (s : ByteArray) (lo hi : Int) : impl_isIn.f s lo hi = some (isB lo hi s) := by
  unfold impl_isIn.f isB
  by_cases h : (s.size : Int) = 1
  · rw [if_pos h, if_pos (show (0 : Int) < s.size by omega)]
    have h' : s.size = 1 := by omega
    by_cases h1 : bt s 0 ≥ lo
    · rw [if_pos h1]
      simp [h', h1]
    · rw [if_neg h1]
      simp [h1]
  · rw [if_neg h]
    have h' : ¬ s.size = 1 := by omega
    simp [h']
theorem implBig_val (s : ByteArray) : impl_SignBig.f s = some (isB 65 69 s) := by unfold impl_SignBig.f; rw [isIn_val]; rfl
theorem specBig_val (s : ByteArray) : spec_SignBig.f s = some (isB 65 69 s) := by
  rw [← isIn_val]
  unfold spec_SignBig.f impl_isIn.f spec_l1Big.f
  by_cases h : (s.size : Int) = 1
  · rw [if_pos h, if_pos h]
    by_cases h1 : (0 : Int) < s.size
    · rw [if_pos h1, if_pos h1]
      split <;> rfl
    · rw [if_neg h1, if_neg h1]
  · rw [if_neg h, if_neg h]
def bgB (b : UInt8) : Bool := decide (65 ≤ b.toNat ∧ b.toNat ≤ 69)
def smB (b : UInt8) : Bool := decide (97 ≤ b.toNat ∧ b.toNat ≤ 100)
def sgB (b : UInt8) : Bool := bgB b || smB b
def sgR (l : List UInt8) : Bool := l.all sgB
theorem trim_nil (l cs : List UInt8) : Lib.trimS l cs = [] ↔ ∀ x ∈ l, x ∈ cs := by
  have hd : ∀ (m : List UInt8), m.dropWhile (cs.contains ·) = [] ↔ ∀ x ∈ m, x ∈ cs := by
    intro m
    induction m with
    | nil => simp
    | cons x m ih =>
      rw [List.dropWhile_cons]
      by_cases h : cs.contains x = true
      · rw [if_pos h, ih]
        simp [List.contains_iff_mem.1 h]
      · rw [if_neg h]
        simp only [reduceCtorEq, false_iff]
        intro h'
        exact h (List.contains_iff_mem.2 (h' x (by simp)))
  unfold Lib.trimS Lib.trimLeftS Lib.trimRightS
  rw [hd]
  constructor
  · intro h
    by_cases h' : ∀ x ∈ l, x ∈ cs
    · exact h'
    · exfalso
      have hne : l.reverse.dropWhile (cs.contains ·) ≠ [] := fun e => h' fun x hx => (hd _).1 e x (by simpa using hx)
      have hx := List.head_dropWhile_not (fun x => cs.contains x) hne
      have hm := h ((l.reverse.dropWhile (cs.contains ·)).head hne) (by simp)
      rw [List.contains_iff_mem.2 hm] at hx
      cases hx
  · intro h x hx
    rw [List.mem_reverse] at hx
    have := List.dropWhile_subset _ hx
    exact h x (by simpa using this)
theorem mem_signs (x : UInt8) : x ∈ ([65, 66, 67, 68, 69, 97, 98, 99, 100] : List UInt8) ↔ sgB x = true := by
  unfold sgB bgB smB
  simp only [List.mem_cons, List.not_mem_nil, or_false, decide_eq_true_eq, Bool.or_eq_true]
  constructor
  · rintro (rfl | rfl | rfl | rfl | rfl | rfl | rfl | rfl | rfl) <;> decide
  · intro h
    have : x.toNat = 65 ∨ x.toNat = 66 ∨ x.toNat = 67 ∨ x.toNat = 68 ∨ x.toNat = 69 ∨ x.toNat = 97 ∨ x.toNat = 98 ∨ x.toNat = 99 ∨ x.toNat = 100 := by omega
    rcases this with e | e | e | e | e | e | e | e | e
    · exact .inl (UInt8.toNat_inj.1 e)
    · exact .inr (.inl (UInt8.toNat_inj.1 e))
    · exact .inr (.inr (.inl (UInt8.toNat_inj.1 e)))
    · exact .inr (.inr (.inr (.inl (UInt8.toNat_inj.1 e))))
    · exact .inr (.inr (.inr (.inr (.inl (UInt8.toNat_inj.1 e)))))
    · exact .inr (.inr (.inr (.inr (.inr (.inl (UInt8.toNat_inj.1 e))))))
    · exact .inr (.inr (.inr (.inr (.inr (.inr (.inl (UInt8.toNat_inj.1 e)))))))
    · exact .inr (.inr (.inr (.inr (.inr (.inr (.inr (.inl (UInt8.toNat_inj.1 e))))))))
    · exact .inr (.inr (.inr (.inr (.inr (.inr (.inr (.inr (UInt8.toNat_inj.1 e))))))))
theorem signs_val (t : ByteArray) (n : Int) (ht : t.size ≤ 1000000) : impl_areSigns.f t n = some (decide ((t.size : Int) ≤ n) && sgR t.data.toList) := by
  unfold impl_areSigns.f
  by_cases h : (t.size : Int) ≤ n
  · rw [if_pos h]
    unfold strings_Trim.f
    rw [if_pos ⟨by omega, by decide, by decide⟩]
    simp only [Option.bind_some]
    rw [tl]
    congr 1
    have e1 : ((⟨(Lib.trimS t.data.toList (⟨#[65, 66, 67, 68, 69, 97, 98, 99, 100]⟩ : ByteArray).data.toList).toArray⟩ : ByteArray).data.toList) = Lib.trimS t.data.toList [65, 66, 67, 68, 69, 97, 98, 99, 100] := by simp
    rw [e1]
    have hi := trim_nil t.data.toList [65, 66, 67, 68, 69, 97, 98, 99, 100]
    have hsm : (∀ x ∈ t.data.toList, x ∈ ([65, 66, 67, 68, 69, 97, 98, 99, 100] : List UInt8)) ↔ sgR t.data.toList = true := by
      unfold sgR
      rw [List.all_eq_true]
      exact ⟨fun h x hm => (mem_signs x).1 (h x hm), fun h x hm => (mem_signs x).2 (h x hm)⟩
    rw [hsm] at hi
    simp only [h, decide_true, Bool.true_and]
    cases hs : sgR t.data.toList with
    | true => rw [hi.2 hs]; rfl
    | false =>
      have : Lib.trimS t.data.toList [65, 66, 67, 68, 69, 97, 98, 99, 100] ≠ [] := fun e => by rw [hi.1 e] at hs; cases hs
      exact beq_eq_false_iff_ne.2 this
  · rw [if_neg h]
    simp [h]
theorem right_l0 (t : ByteArray) (m : Int) (ht : t.size ≤ 1000000) (d : Nat) : ∀ (i : Nat), i + d = t.size →
    EvP (fun k => spec_l1Right.l0 k t m (i : Int)) (fun r => r = (sgR (t.data.toList.drop i) && decide ((t.size : Int) ≤ m))) := by
  induction d with
  | zero =>
    intro i hd
    refine EvP.step ?_
    simp only [spec_l1Right.l0]
    refine EvP.no (by omega) (EvP.now ?_)
    have hl := len_tl t
    rw [List.drop_eq_nil_of_le (by omega)]
    simp [sgR]
  | succ d ih =>
    intro i hd
    refine EvP.step ?_
    simp only [spec_l1Right.l0]
    refine EvP.yes (by omega) (EvP.yes (by omega) ?_)
    have hb := bt_tl t i (by omega)
    have hc := drop_cons t i (by omega)
    rw [hc, hb]
    generalize (t.data.toList[i]'(by rw [len_tl]; omega)) = x
    have e1 : (x.toNat : Int) ≥ 97 ↔ 97 ≤ x.toNat := by omega
    have e2 : (x.toNat : Int) ≤ 100 ↔ x.toNat ≤ 100 := by omega
    have e3 : (x.toNat : Int) ≥ 65 ↔ 65 ≤ x.toNat := by omega
    have e4 : (x.toNat : Int) ≤ 69 ↔ x.toNat ≤ 69 := by omega
    have hv : spec_l1Small.f (x.toNat : Int) = some (smB x) := by
      unfold spec_l1Small.f smB
      by_cases h : (x.toNat : Int) ≥ 97
      · rw [if_pos h]; simp [e1.1 h, e2]
      · rw [if_neg h]; have h97 : ¬ 97 ≤ x.toNat := fun h' => h (e1.2 h')
        simp [h97]
    have hw : spec_l1Big.f (x.toNat : Int) = some (bgB x) := by
      unfold spec_l1Big.f bgB
      by_cases h : (x.toNat : Int) ≥ 65
      · rw [if_pos h]; simp [e3.1 h, e4]
      · rw [if_neg h]; have h97 : ¬ 65 ≤ x.toNat := fun h' => h (e3.2 h')
        simp [h97]
    simp only [hv, hw, Option.bind_some]
    have hgo : sgB x = true → EvP (fun k => spec_l1Right.l0 k t m (wrap64 ((i : Int) + 1))) (fun r => r = (sgR (x :: t.data.toList.drop (i + 1)) && decide ((t.size : Int) ≤ m))) := by
      intro hx
      rw [w64 (x := (i : Int) + 1) (by omega) (by omega)]
      refine (ih (i + 1) (by omega)).mono fun r hr => ?_
      rw [hr]
      simp [sgR, hx]
    refine EvP.ite (fun h => hgo (by simp [sgB, h])) fun h => ?_
    refine EvP.ite (fun h' => hgo (by simp [sgB, h'])) fun h' => EvP.now ?_
    have g1 : bgB x = false := by simpa using h
    have g2 : smB x = false := by simpa using h'
    simp [sgR, sgB, g1, g2]
theorem right_v (t : ByteArray) (m : Int) (ht : t.size ≤ 1000000) : EvP (fun k => spec_l1Right.f k t m) (fun r => r = (decide ((t.size : Int) ≤ m) && sgR t.data.toList)) := by
  unfold spec_l1Right.f
  refine (right_l0 t m ht t.size 0 (by omega)).mono fun r hr => ?_
  rw [hr, List.drop_zero, Bool.and_comm]
def key (x : S42) : List UInt8 × List UInt8 := (x.f0.toList, x.f1.toList)
theorem rd_drop (l : List S42) (i : Nat) (h : i < l.length) : l.drop i = rd_T42 l (i : Int) :: l.drop (i + 1) := by
  rw [List.drop_eq_getElem_cons h]
  unfold rd_T42
  rw [List.getD_eq_getElem?_getD, show ((i : Int)).toNat = i by omega, List.getElem?_eq_getElem h]
  rfl
def hasK (l : List S42) (q : List UInt8 × List UInt8) : Bool := l.any fun x => decide (key x = q)
theorem hasK_cons (x : S42) (l : List S42) (q : List UInt8 × List UInt8) : hasK (x :: l) q = (decide (key x = q) || hasK l q) := by simp [hasK]
theorem place_l0v (l : List S42) (hl : l.length ≤ 1000000) (a b : ByteArray) (d : Nat) : ∀ (i : Nat), i + d = l.length →
    EvP (fun k => spec_l1Place.l0 k l (i : Int) a b) (fun r => decide (r ≥ 0) = hasK (l.drop i) (a.toList, b.toList)) := by
  induction d with
  | zero =>
    intro i hd
    refine EvP.step ?_
    simp only [spec_l1Place.l0]
    refine EvP.no (by omega) (EvP.now ?_)
    rw [List.drop_eq_nil_of_le (by omega)]
    rfl
  | succ d ih =>
    intro i hd
    refine EvP.step ?_
    simp only [spec_l1Place.l0]
    refine EvP.yes (by omega) (EvP.yes (by omega) ?_)
    rw [rd_drop l i (by omega), hasK_cons]
    refine EvP.ite (fun h => EvP.now ?_) fun h => ?_
    · have hk : key (rd_T42 l i) = (a.toList, b.toList) := by
        simp only [Bool.and_eq_true, beq_iff_eq] at h
        unfold key
        rw [h.1, h.2]
      simp [hk]
    · have hk : ¬ key (rd_T42 l i) = (a.toList, b.toList) := by
        intro e
        apply h
        unfold key at e
        simp only [Prod.mk.injEq] at e
        simp [e.1, e.2]
      rw [w64 (x := (i : Int) + 1) (by omega) (by omega)]
      refine (ih (i + 1) (by omega)).mono fun r hr => ?_
      rw [hr]
      simp [hk]
theorem place_v (l : List S42) (hl : l.length ≤ 1000000) (a b : ByteArray) : EvP (fun k => spec_l1Place.f k l a b) (fun r => decide (r ≥ 0) = hasK l (a.toList, b.toList)) := by
  unfold spec_l1Place.f
  exact place_l0v l hl a b l.length 0 (by omega)
theorem idx_l0v (l : List S42) (hl : l.length ≤ 1000000) (a b : ByteArray) (d : Nat) : ∀ (i : Nat), i + d = l.length →
    EvP (fun k => impl_Rule_93.l0 k l (l.length : Int) (i : Int) a b) (fun r => decide (r ≥ 0) = hasK (l.drop i) (a.toList, b.toList)) := by
  induction d with
  | zero =>
    intro i hd
    refine EvP.step ?_
    simp only [impl_Rule_93.l0]
    refine EvP.no (by omega) (EvP.now ?_)
    rw [List.drop_eq_nil_of_le (by omega)]
    rfl
  | succ d ih =>
    intro i hd
    refine EvP.step ?_
    simp only [impl_Rule_93.l0]
    refine EvP.yes (by omega) (EvP.yes (by omega) (EvP.yes (by omega) ?_))
    rw [rd_drop l i (by omega), hasK_cons]
    refine EvP.ite (fun h => EvP.now ?_) fun h => ?_
    · have hk : key (rd_T42 l i) = (a.toList, b.toList) := by
        simp only [Bool.and_eq_true, beq_iff_eq] at h
        unfold key
        rw [← h.1, ← h.2]
      simp [hk]
    · have hk : ¬ key (rd_T42 l i) = (a.toList, b.toList) := by
        intro e
        apply h
        unfold key at e
        simp only [Prod.mk.injEq] at e
        simp [e.1, e.2]
      rw [w64 (x := (i : Int) + 1) (by omega) (by omega)]
      refine (ih (i + 1) (by omega)).mono fun r hr => ?_
      rw [hr]
      simp [hk]
theorem has_v (l : List S42) (hl : l.length ≤ 1000000) (a b : ByteArray) : EvP (fun k => impl_Rule_56.f k l a b) (fun r => r = hasK l (a.toList, b.toList)) := by
  unfold impl_Rule_56.f
  refine EvP.bind (P := fun r => decide (r ≥ 0) = hasK l (a.toList, b.toList)) ?_ fun r hr => EvP.now hr
  unfold impl_Rule_93.f
  exact idx_l0v l hl a b l.length 0 (by omega)
def okAt (l : List S42) (i : Nat) : Bool :=
  isB 65 69 (rd_T42 l i).f0 && (decide (((rd_T42 l i).f1.size : Int) ≤ 4) && sgR (rd_T42 l i).f1.data.toList) && !(hasK (l.take i) (key (rd_T42 l i)))
def okFrom (l : List S42) : Nat → Nat → Bool
  | 0, _ => true
  | d + 1, i => okAt l i && okFrom l d (i + 1)
def gramOk (s : ByteArray) (l : List S42) : Bool := isB 65 69 s && decide (l.length ≤ 8) && okFrom l l.length 0
theorem rd_size {n m : Nat} {l : List S42} (h : Gr n m l) (i : Nat) (hi : i < l.length) : (rd_T42 l (i : Int)).f1.size ≤ m := by
  apply h.2
  unfold rd_T42
  rw [List.getD_eq_getElem?_getD, show ((i : Int)).toNat = i by omega, List.getElem?_eq_getElem hi]
  exact List.getElem_mem _
theorem implOk_l0 (s : ByteArray) (l : List S42) (hl : Gr 1000 1000 l) (d : Nat) : ∀ (i : Nat), i + d = l.length →
    EvP (fun k => impl_GramOk.l0 k l (l.length : Int) (i : Int) s l) (fun r => r = okFrom l d i) := by
  have hn := hl.1
  induction d with
  | zero =>
    intro i hd
    refine EvP.step ?_
    simp only [impl_GramOk.l0]
    exact EvP.no (by omega) (EvP.now rfl)
  | succ d ih =>
    intro i hd
    refine EvP.step ?_
    simp only [impl_GramOk.l0]
    have hsz := rd_size hl i (by omega)
    have e0 : (((i : Int)).toNat) = i := by omega
    rw [e0]
    simp only [implBig_val, signs_val _ 4 (show (rd_T42 l (i : Int)).f1.size ≤ 1000000 by omega), Option.bind_some]
    refine EvP.yes (by omega) (EvP.yes (by omega) (EvP.yes (by omega) ?_))
    simp only [okFrom, okAt]
    refine EvP.ite (fun h1 => ?_) fun h1 => EvP.now ?_
    · rw [h1]
      refine EvP.ite (fun h2 => ?_) fun h2 => EvP.now ?_
      · rw [h2]
        refine EvP.yes (by omega) ?_
        refine EvP.bind (has_v (l.take i) (by rw [List.length_take]; omega) _ _) fun t ht => ?_
        have ht' : t = hasK (l.take i) (key (rd_T42 l i)) := ht
        refine EvP.ite (fun h3 => EvP.now ?_) fun h3 => ?_
        · rw [← ht', h3]; rfl
        · have h3' : t = false := by simpa using h3
          rw [← ht', h3', w64 (x := (i : Int) + 1) (by omega) (by omega)]
          refine (ih (i + 1) (by omega)).mono fun r hr => ?_
          rw [hr]
          simp
      · have h2' : (decide (((rd_T42 l (i : Int)).f1.size : Int) ≤ 4) && sgR (rd_T42 l (i : Int)).f1.data.toList) = false := by simpa using h2
        rw [h2']; simp
    · have h1' : isB 65 69 (rd_T42 l (i : Int)).f0 = false := by simpa using h1
      rw [h1']; simp
theorem implOk_v (s : ByteArray) (l : List S42) (hl : Gr 1000 1000 l) : EvP (fun k => impl_GramOk.f k s l) (fun r => r = gramOk s l) := by
  have hn := hl.1
  unfold impl_GramOk.f
  simp only [implBig_val, Option.bind_some]
  have hj : ∀ x : Bool, (x = true → gramOk s l = false) → (¬ x = true → isB 65 69 s = true ∧ l.length ≤ 8) → EvP (fun k => impl_GramOk.j0 k x s l) (fun r => r = gramOk s l) := by
    intro x h1 h2
    refine EvP.step ?_
    simp only [impl_GramOk.j0]
    refine EvP.ite (fun h => EvP.now (h1 h).symm) fun h => ?_
    obtain ⟨g1, g2⟩ := h2 h
    refine (implOk_l0 s l hl l.length 0 (by omega)).mono fun r hr => ?_
    rw [hr]
    simp [gramOk, g1, g2]
  refine EvP.ite (fun h => hj _ (fun h1 => ?_) fun h1 => ⟨h, ?_⟩) fun h => hj true (fun _ => ?_) (fun h => absurd rfl h)
  · have h2 := of_decide_eq_true h1
    have h3 : ¬ l.length ≤ 8 := by omega
    simp [gramOk, h3]
  · have h2 : ¬ ((l.length : Int) > 8) := fun h' => h1 (decide_eq_true h')
    omega
  · have h' : isB 65 69 s = false := by simpa using h
    simp [gramOk, h']
theorem specOk_l0 (s : ByteArray) (l : List S42) (hl : Gr 1000 1000 l) (d : Nat) : ∀ (i : Nat), i + d = l.length →
    EvP (fun k => spec_GramOk.l0 k (i : Int) s l) (fun r => r = okFrom l d i) := by
  have hn := hl.1
  induction d with
  | zero =>
    intro i hd
    refine EvP.step ?_
    simp only [spec_GramOk.l0]
    exact EvP.no (by omega) (EvP.now rfl)
  | succ d ih =>
    intro i hd
    refine EvP.step ?_
    simp only [spec_GramOk.l0]
    have hsz := rd_size hl i (by omega)
    have e0 : (((i : Int)).toNat) = i := by omega
    rw [e0]
    simp only [specBig_val, Option.bind_some]
    refine EvP.yes (by omega) (EvP.yes (by omega) ?_)
    simp only [okFrom, okAt]
    refine EvP.ite (fun h1 => ?_) fun h1 => EvP.now ?_
    · rw [h1]
      refine EvP.bind (right_v _ 4 (show (rd_T42 l (i : Int)).f1.size ≤ 1000000 by omega)) fun u hu => ?_
      rw [← hu]
      refine EvP.ite (fun h2 => ?_) fun h2 => EvP.now ?_
      · rw [h2]
        refine EvP.yes (by omega) ?_
        refine EvP.bind (place_v (l.take i) (by rw [List.length_take]; omega) _ _) fun t ht => ?_
        have ht' : decide (t ≥ 0) = hasK (l.take i) (key (rd_T42 l i)) := ht
        refine EvP.ite (fun h3 => EvP.now ?_) fun h3 => ?_
        · rw [← ht', decide_eq_true h3]; rfl
        · rw [← ht', decide_eq_false h3, w64 (x := (i : Int) + 1) (by omega) (by omega)]
          refine (ih (i + 1) (by omega)).mono fun r hr => ?_
          rw [hr]
          simp
      · have h2' : u = false := by simpa using h2
        rw [h2']; simp
    · have h1' : isB 65 69 (rd_T42 l (i : Int)).f0 = false := by simpa using h1
      rw [h1']; simp
theorem specOk_v (s : ByteArray) (l : List S42) (hl : Gr 1000 1000 l) : EvP (fun k => spec_GramOk.f k s l) (fun r => r = gramOk s l) := by
  have hn := hl.1
  unfold spec_GramOk.f
  simp only [specBig_val, Option.bind_some]
  have hj : ∀ x : Bool, (x = true → gramOk s l = false) → (¬ x = true → isB 65 69 s = true ∧ l.length ≤ 8) → EvP (fun k => spec_GramOk.j0 k x s l) (fun r => r = gramOk s l) := by
    intro x h1 h2
    refine EvP.step ?_
    simp only [spec_GramOk.j0]
    refine EvP.ite (fun h => EvP.now (h1 h).symm) fun h => ?_
    obtain ⟨g1, g2⟩ := h2 h
    refine (specOk_l0 s l hl l.length 0 (by omega)).mono fun r hr => ?_
    rw [hr]
    simp [gramOk, g1, g2]
  refine EvP.ite (fun h => hj _ (fun h1 => ?_) fun h1 => ⟨h, ?_⟩) fun h => hj true (fun _ => ?_) (fun h => absurd rfl h)
  · have h2 := of_decide_eq_true h1
    have h3 : ¬ l.length ≤ 8 := by omega
    simp [gramOk, h3]
  · have h2 : ¬ ((l.length : Int) > 8) := fun h' => h1 (decide_eq_true h')
    omega
  · have h' : isB 65 69 s = false := by simpa using h
    simp [gramOk, h']
theorem okFrom_at (l : List S42) (d : Nat) : ∀ (i j : Nat), okFrom l d i = true → i ≤ j → j < i + d → okAt l j = true := by
  induction d with
  | zero => intro i j _ h1 h2; omega
  | succ d ih =>
    intro i j h h1 h2
    simp only [okFrom, Bool.and_eq_true] at h
    by_cases e : i = j
    · rw [← e]; exact h.1
    · exact ih (i + 1) j h.2 (by omega) (by omega)
theorem gr_up {n m n' m' : Nat} {rs : List S42} (h : Gr n m rs) (hn : n ≤ n') (hm : m ≤ m') : Gr n' m' rs := ⟨Nat.le_trans h.1 hn, fun x hx => Nat.le_trans (h.2 x hx) hm⟩
end Go.Proofs.YtilogmimbdpnbaaDoor.DFnGramOnly
