/- What EditDo, the program's and the reference's, answer: one plain edit of a list of bytes. -/
import Derived.Test.YtilogmimbdpnbaaDoorTFnEditsDo
import Derived.Lib.SlTrimSet
namespace Go.Proofs.YtilogmimbdpnbaaDoor.DFnEditsDo
open Go.RowKit Go.Proofs.YtilogmimbdpnbaaDoor.PFnEditsDo Go.Proofs.YtilogmimbdpnbaaDoorW.PrintWords Go.Proofs.YtilogmimbdpnbaaDoorW.PrintLast Go.Proofs.YtilogmimbdpnbaaDoor.Ev
set_option linter.unusedVariables false
set_option linter.unusedSimpArgs false

theorem loop_eq' (s : ByteArray) (n : Nat) : ∀ (i : Nat) (acc : List UInt8), s.size - i = n → ByteArray.toList.loop s i acc = acc.reverse ++ s.data.toList.drop i := by
  have hl : s.data.toList.length = s.size := by simp
  induction n with
  | zero =>
    intro i acc h
    unfold ByteArray.toList.loop
    rw [if_neg (by omega), List.drop_eq_nil_of_le (by omega)]
    simp
  | succ n ih =>
    intro i acc h
    unfold ByteArray.toList.loop
    rw [if_pos (by omega), ih (i + 1) _ (by omega), List.drop_eq_getElem_cons (i := i) (by omega)]
    have : s.get! i = s.data.toList[i]'(by omega) := by
      show s.data[i]! = _
      rw [getElem!_pos s.data i (show i < s.data.size by show i < s.size; omega)]
      simp
    rw [this]
    simp
theorem tl (s : ByteArray) : s.toList = s.data.toList := by
  unfold ByteArray.toList
  rw [loop_eq' s s.size 0 [] (by omega)]
  simp
theorem len_tl (s : ByteArray) : s.data.toList.length = s.size := by simp
theorem ext_tl (s : ByteArray) (i j : Nat) : (s.extract i j).data.toList = (s.data.toList.take j).drop i := by
  rw [ByteArray.data_extract, Array.toList_extract, List.extract_eq_take_drop, List.drop_take]
theorem app_tl (a b : ByteArray) : (a ++ b).data.toList = a.data.toList ++ b.data.toList := by
  rw [ByteArray.data_append, Array.toList_append]
theorem bt_tl (s : ByteArray) (i : Nat) (h : i < s.size) : bt s (i : Int) = ((s.data.toList[i]'(by rw [len_tl]; exact h)).toNat : Int) := by
  unfold bt
  rw [dif_pos (show ((i : Int)).toNat < s.size by simpa using h)]
  simp
  rfl
theorem ext_inj (a b : ByteArray) (h : a.data.toList = b.data.toList) : a = b := by
  cases a; cases b
  simp only [ByteArray.mk.injEq]
  exact Array.toList_inj.1 h

def smB (b : UInt8) : Bool := decide (97 ≤ b.toNat ∧ b.toNat ≤ 100)
def smL (l : List UInt8) : Bool := l.all smB
/-- A small sign: one small byte. -/
def sgL (c : List UInt8) : Bool := decide (c.length = 1) && smL c
def okL (l : List UInt8) (a b : Int) (c : List UInt8) : Bool :=
  smL l && decide (l.length ≤ 20) && ((decide (a = 1) && decide (0 ≤ b ∧ b ≤ l.length) && sgL c && decide (l.length < 20)) || (decide (a = 2) && decide (0 ≤ b ∧ b < l.length) && decide (c = [])) || (decide (a = 3) && decide (0 ≤ b ∧ b < l.length) && sgL c && decide ((l.drop b.toNat).take 1 ≠ c)))
def doL (l : List UInt8) (a b : Int) (c : List UInt8) : List UInt8 := l.take b.toNat ++ c ++ l.drop (if a = 1 then b.toNat else b.toNat + 1)

theorem sg_bt (c : ByteArray) : sgL c.data.toList = decide (c.size = 1 ∧ 97 ≤ bt c 0 ∧ bt c 0 ≤ 100) := by
  unfold sgL smL
  by_cases h : c.size = 1
  · have hb := bt_tl c 0 (by omega)
    obtain ⟨x, hx⟩ := List.length_eq_one_iff.1 (show c.data.toList.length = 1 by rw [len_tl]; exact h)
    have hb' : bt c 0 = (x.toNat : Int) := by
      have e : (c.data.toList[0]'(by rw [len_tl]; omega)) = x := by simp [hx]
      rw [← e]
      exact hb
    rw [hb', hx]
    have e1 : (97 ≤ (x.toNat : Int)) ↔ 97 ≤ x.toNat := by omega
    have e2 : ((x.toNat : Int) ≤ 100) ↔ x.toNat ≤ 100 := by omega
    simp [smB, h, e1, e2]
  · have : ¬ c.data.toList.length = 1 := by rw [len_tl]; exact h
    simp [this, h]

/-! the program's -/
theorem trim_nil (l cs : List UInt8) : Lib.trimS l cs = [] ↔ ∀ x ∈ l, x ∈ cs := by
  have hd : ∀ (m : List UInt8), m.dropWhile (cs.contains ·) = [] ↔ ∀ x ∈ m, x ∈ cs := by
    intro m
    induction m with
    | nil => simp
    | cons x m ih =>
      rw [List.dropWhile_cons]
      by_cases h : cs.contains x = true
      · rw [if_pos h, ih]
        simp [List.contains_iff_mem.1 h]
      · rw [if_neg h]
        simp only [reduceCtorEq, false_iff]
        intro h'
        exact h (List.contains_iff_mem.2 (h' x (by simp)))
  unfold Lib.trimS Lib.trimLeftS Lib.trimRightS
  rw [hd]
  constructor
  · intro h
    by_cases h' : ∀ x ∈ l, x ∈ cs
    · exact h'
    · exfalso
      have hne : l.reverse.dropWhile (cs.contains ·) ≠ [] := fun e => h' fun x hx => (hd _).1 e x (by simpa using hx)
      have hx := List.head_dropWhile_not (fun x => cs.contains x) hne
      have hm := h ((l.reverse.dropWhile (cs.contains ·)).head hne) (by simp)
      rw [List.contains_iff_mem.2 hm] at hx
      cases hx
  · intro h x hx
    rw [List.mem_reverse] at hx
    have := List.dropWhile_subset _ hx
    exact h x (by simpa using this)

theorem smalls_val (t : ByteArray) (n : Int) (ht : t.size ≤ 1000000) : impl_areSmalls.f t n = some (decide ((t.size : Int) ≤ n) && smL t.data.toList) := by
  unfold impl_areSmalls.f
  by_cases h : (t.size : Int) ≤ n
  · rw [if_pos h]
    unfold strings_Trim.f
    rw [if_pos ⟨by omega, by decide, by decide⟩]
    simp only [Option.bind_some]
    rw [tl]
    congr 1
    have e1 : ((⟨(Lib.trimS t.data.toList (⟨#[97, 98, 99, 100]⟩ : ByteArray).data.toList).toArray⟩ : ByteArray).data.toList) = Lib.trimS t.data.toList [97, 98, 99, 100] := by simp
    rw [e1]
    have hi := trim_nil t.data.toList [97, 98, 99, 100]
    have hsm : (∀ x ∈ t.data.toList, x ∈ ([97, 98, 99, 100] : List UInt8)) ↔ smL t.data.toList = true := by
      unfold smL
      rw [List.all_eq_true]
      have hx : ∀ x : UInt8, x ∈ ([97, 98, 99, 100] : List UInt8) ↔ smB x = true := by
        intro x
        unfold smB
        simp only [List.mem_cons, List.not_mem_nil, or_false, decide_eq_true_eq]
        constructor
        · rintro (rfl | rfl | rfl | rfl) <;> decide
        · rintro ⟨h1, h2⟩
          have : x.toNat = 97 ∨ x.toNat = 98 ∨ x.toNat = 99 ∨ x.toNat = 100 := by omega
          rcases this with e | e | e | e
          · exact .inl (UInt8.toNat_inj.1 e)
          · exact .inr (.inl (UInt8.toNat_inj.1 e))
          · exact .inr (.inr (.inl (UInt8.toNat_inj.1 e)))
          · exact .inr (.inr (.inr (UInt8.toNat_inj.1 e)))
      exact ⟨fun h x hm => (hx x).1 (h x hm), fun h x hm => (hx x).2 (h x hm)⟩
    rw [hsm] at hi
    simp only [h, decide_true, Bool.true_and]
    cases hs : smL t.data.toList with
    | true => rw [hi.2 hs]; rfl
    | false =>
      have : Lib.trimS t.data.toList [97, 98, 99, 100] ≠ [] := fun e => by rw [hi.1 e] at hs; cases hs
      exact beq_eq_false_iff_ne.2 this
  · rw [if_neg h]
    simp [h]

theorem signS_val (c : ByteArray) : impl_SignSmall.f c = some (sgL c.data.toList) := by
  unfold impl_SignSmall.f impl_isIn.f
  rw [sg_bt]
  by_cases h : (c.size : Int) = 1
  · rw [if_pos h, if_pos (by omega)]
    have h' : c.size = 1 := by omega
    by_cases h1 : bt c 0 ≥ 97
    · rw [if_pos h1]; simp [h', h1]
    · rw [if_neg h1]; simp [h1]
  · rw [if_neg h]
    have h' : ¬ c.size = 1 := by omega
    simp [h']

def Done (t : ByteArray) (a b : Int) (c : ByteArray) (r : ByteArray × Bool) : Prop :=
  r.2 = okL t.data.toList a b c.data.toList ∧ r.1.data.toList = if okL t.data.toList a b c.data.toList = true then doL t.data.toList a b c.data.toList else []
theorem done_no {t : ByteArray} {a b : Int} {c : ByteArray} (h : okL t.data.toList a b c.data.toList = false) : Done t a b c ((⟨#[]⟩ : ByteArray), false) := by
  unfold Done
  rw [h]
  exact ⟨rfl, rfl⟩
theorem done_yes {t : ByteArray} {a b : Int} {c : ByteArray} {r : ByteArray} (h : okL t.data.toList a b c.data.toList = true) (hr : r.data.toList = doL t.data.toList a b c.data.toList) : Done t a b c (r, true) := by
  unfold Done
  rw [h]
  exact ⟨rfl, by simpa using hr⟩

theorem in_list (t : ByteArray) (b : Int) (c : ByteArray) (h0 : 0 ≤ b) (h1 : b ≤ t.size) : (((t.extract 0 b.toNat) ++ c) ++ (t.extract b.toNat t.size)).data.toList = doL t.data.toList 1 b c.data.toList := by
  rw [app_tl, app_tl, ext_tl, ext_tl]
  unfold doL
  rw [if_pos rfl, List.take_of_length_le (l := t.data.toList) (i := t.size) (by rw [len_tl]; omega)]
  simp
theorem out_list (t : ByteArray) (a b : Int) (c : ByteArray) (ha : ¬ a = 1) (h0 : 0 ≤ b) (h1 : b < t.size) : (((t.extract 0 b.toNat) ++ c) ++ (t.extract (b + 1).toNat t.size)).data.toList = doL t.data.toList a b c.data.toList := by
  rw [app_tl, app_tl, ext_tl, ext_tl]
  unfold doL
  rw [if_neg ha, List.take_of_length_le (l := t.data.toList) (i := t.size) (by rw [len_tl]; omega), show (b + 1).toNat = b.toNat + 1 by omega]
  simp
theorem out_list2 (t : ByteArray) (a b : Int) (c : ByteArray) (hc : c.data.toList = []) (ha : ¬ a = 1) (h0 : 0 ≤ b) (h1 : b < t.size) : ((t.extract 0 b.toNat) ++ (t.extract (b + 1).toNat t.size)).data.toList = doL t.data.toList a b c.data.toList := by
  rw [app_tl, ext_tl, ext_tl]
  unfold doL
  rw [if_neg ha, List.take_of_length_le (l := t.data.toList) (i := t.size) (by rw [len_tl]; omega), show (b + 1).toNat = b.toNat + 1 by omega, hc]
  simp
theorem at_list (t : ByteArray) (b : Int) (h0 : 0 ≤ b) : (t.extract b.toNat (b + 1).toNat).data.toList = (t.data.toList.drop b.toNat).take 1 := by
  rw [ext_tl, show (b + 1).toNat = b.toNat + 1 by omega, List.drop_take, show b.toNat + 1 - b.toNat = 1 by omega]

theorem implDo_ev (t : ByteArray) (a b : Int) (c : ByteArray) (ht : t.size ≤ 1000) (hc : c.size ≤ 1000) : EvP (fun k => impl_EditDo.f k t a b c) (Done t a b c) := by
  have e0 : ∀ (i j : Nat), (t.extract i j).size = min j t.size - i := fun i j => by rw [ByteArray.size_extract]
  have hT := len_tl t
  unfold impl_EditDo.f
  simp only [signS_val, smalls_val t 20 (by omega), Option.bind_some]
  have hj2 : (x : Bool) → smL t.data.toList = true → t.size ≤ 20 → 0 ≤ b → b ≤ t.size → (¬ a = 1 → b < t.size) → ¬ (a = 1 ∧ sgL c.data.toList = true ∧ t.size < 20) → (x = true ↔ a = 2 ∧ c.data.toList = []) →
      EvP (fun k => impl_EditDo.j2 k t b (sgL c.data.toList) x a b c) (Done t a b c) := by
    intro x hs h20 h0 h1 h2 h3 hx
    refine EvP.step ?_
    simp only [impl_EditDo.j2]
    refine EvP.ite (fun h => ?_) fun h => ?_
    · obtain ⟨h4, h5⟩ := hx.1 h
      have h6 := h2 (by omega)
      rw [w64 (x := b + 1) (by omega) (by omega)]
      refine EvP.yes h0 (EvP.yes h1 (EvP.yes (by omega) (EvP.yes (by omega) (EvP.yes (by rw [e0, e0]; omega) (EvP.now ?_)))))
      refine done_yes ?_ (out_list2 t a b c h5 (by omega) h0 h6)
      simp [okL, hs, h20, h4, h5, h0, h6]
    · have hx' : ¬ (a = 2 ∧ c.data.toList = []) := fun h' => h (hx.2 h')
      refine EvP.ite (fun h4 => ?_) fun h4 => ?_
      · have h6 := h2 (by omega)
        refine EvP.ite (fun h5 => ?_) fun h5 => ?_
        · rw [w64 (x := b + 1) (by omega) (by omega)]
          refine EvP.yes h0 (EvP.yes (by omega) (EvP.yes (by omega) ?_))
          rw [tl, tl, at_list t b h0]
          refine EvP.ite (fun h7 => EvP.now (done_no ?_)) fun h7 => ?_
          · simp [okL, h4, h7]
          · refine EvP.yes h1 (EvP.yes (by rw [e0]; omega) (EvP.yes (by omega) (EvP.yes (by rw [ByteArray.size_append, e0, e0]; omega) (EvP.now ?_))))
            refine done_yes ?_ (out_list t a b c (by omega) h0 h6)
            simp [okL, hs, h20, h4, h5, h0, h6, h7]
        · refine EvP.now (done_no ?_)
          have h5' : sgL c.data.toList = false := by simpa using h5
          simp [okL, h4, h5']
      · refine EvP.now (done_no ?_)
        unfold okL
        by_cases g1 : a = 1
        · have : ¬ (sgL c.data.toList = true ∧ t.size < 20) := fun h' => h3 ⟨g1, h'⟩
          cases hg : sgL c.data.toList with
          | true =>
            have : ¬ t.size < 20 := fun h' => this ⟨hg, h'⟩
            simp [g1]; omega
          | false => simp [g1]
        · by_cases g2 : a = 2
          · have : ¬ c.data.toList = [] := fun h' => hx' ⟨g2, h'⟩
            simp [g2, this]
          · simp [g1, g2, h4]
  have hj1 : (x : Bool) → smL t.data.toList = true → t.size ≤ 20 → 0 ≤ b → b ≤ t.size → (¬ a = 1 → b < t.size) → (x = true ↔ a = 1 ∧ sgL c.data.toList = true ∧ t.size < 20) →
      EvP (fun k => impl_EditDo.j1 k t b (sgL c.data.toList) x a b c) (Done t a b c) := by
    intro x hs h20 h0 h1 h2 hx
    refine EvP.step ?_
    simp only [impl_EditDo.j1]
    refine EvP.ite (fun h => ?_) fun h => ?_
    · obtain ⟨h4, h5, h6⟩ := hx.1 h
      refine EvP.yes h0 (EvP.yes h1 (EvP.yes (by rw [e0]; omega) (EvP.yes (by rw [ByteArray.size_append, e0, e0]; omega) (EvP.now ?_))))
      subst h4
      refine done_yes ?_ (in_list t b c h0 h1)
      simp [okL, hs, h20, h5, h0, h1, h6]
    · have h3 : ¬ (a = 1 ∧ sgL c.data.toList = true ∧ t.size < 20) := fun h' => h (hx.2 h')
      refine EvP.ite (fun h4 => ?_) fun h4 => ?_
      · refine hj2 _ hs h20 h0 h1 h2 h3 ?_
        rw [tl]
        simp [h4]
      · refine hj2 _ hs h20 h0 h1 h2 h3 ?_
        simp [h4]
  have hj0 : (x : Bool) → (x = true → okL t.data.toList a b c.data.toList = false) → (x = false → smL t.data.toList = true ∧ t.size ≤ 20 ∧ 0 ≤ b ∧ b ≤ t.size ∧ (¬ a = 1 → b < t.size)) →
      EvP (fun k => impl_EditDo.j0 k t b (sgL c.data.toList) x a b c) (Done t a b c) := by
    intro x hx1 hx2
    refine EvP.step ?_
    simp only [impl_EditDo.j0]
    refine EvP.ite (fun h => EvP.now (done_no (hx1 h))) fun h => ?_
    obtain ⟨h1, h2, h3, h4, h5⟩ := hx2 (by simpa using h)
    refine EvP.ite (fun g1 => ?_) fun g1 => ?_
    · refine EvP.ite (fun g2 => ?_) fun g2 => ?_
      · refine hj1 _ h1 h2 h3 h4 h5 ?_
        simp [g1, g2]
        omega
      · refine hj1 _ h1 h2 h3 h4 h5 ?_
        simp [g2]
    · refine hj1 _ h1 h2 h3 h4 h5 ?_
      simp [g1]
  by_cases hs : smL t.data.toList = true
  · by_cases h20 : t.size ≤ 20
    · have e1 : (decide ((t.size : Int) ≤ 20) && smL t.data.toList) = true := by simp [hs]; omega
      rw [e1]
      refine EvP.yes rfl ?_
      refine EvP.ite (fun h => hj0 true (fun _ => ?_) (fun h => by cases h)) fun h => ?_
      · have : ¬ 0 ≤ b := by omega
        simp [okL, this]
      refine EvP.ite (fun h' => hj0 true (fun _ => ?_) (fun h => by cases h)) fun h' => ?_
      · have g1 : ¬ b ≤ t.size := by omega
        have g2 : ¬ b < t.size := by omega
        simp [okL, g1, g2]
      refine EvP.ite (fun g => hj0 false (fun h => by cases h) fun _ => ⟨hs, h20, by omega, by omega, fun h => absurd g h⟩) fun g => ?_
      refine hj0 _ (fun h1 => ?_) fun h1 => ⟨hs, h20, by omega, by omega, fun _ => ?_⟩
      · have h2 : b = t.size := by simpa using h1
        have g2 : ¬ b < t.size := by omega
        simp [okL, g, g2]
      · have h2 : ¬ b = t.size := by simpa using h1
        omega
    · have e1 : (decide ((t.size : Int) ≤ 20) && smL t.data.toList) = false := by
        have : ¬ (t.size : Int) ≤ 20 := by omega
        simp [this]
      rw [e1]
      refine EvP.no (by simp) (hj0 true (fun _ => ?_) (fun h => by cases h))
      simp [okL, h20]
  · have hs' : smL t.data.toList = false := by simpa using hs
    have e1 : (decide ((t.size : Int) ≤ 20) && smL t.data.toList) = false := by simp [hs']
    rw [e1]
    refine EvP.no (by simp) (hj0 true (fun _ => ?_) (fun h => by cases h))
    simp [okL, hs']
end Go.Proofs.YtilogmimbdpnbaaDoor.DFnEditsDo
