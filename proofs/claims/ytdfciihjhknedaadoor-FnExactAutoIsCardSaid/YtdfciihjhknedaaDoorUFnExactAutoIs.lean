/- A run of an automaton: what the program's steps and the reference's l13Go answer. -/
import Derived.Test.YtdfciihjhknedaaDoorBFnExactAutoIs
import Derived.Test.YtdfciihjhknedaaDoorTFnExactAutoIs
namespace Go.Proofs.YtdfciihjhknedaaDoor.DFnExactAutoIs
open Go.RowKit Go.Proofs.YtdfciihjhknedaaDoor.PFnExactAutoIs Go.Proofs.YtdfciihjhknedaaDoorW.PrintWords Go.Proofs.YtdfciihjhknedaaDoorW.PrintLast Go.Proofs.YtdfciihjhknedaaDoor.Ev Go.Proofs.YtdfciihjhknedaaDoor.Str
set_option linter.unusedVariables false
set_option linter.unusedSimpArgs false

/-- The state to which a text leads, below nothing where there is none. -/
def runA (gs : List (List Int)) : List UInt8 → Int → Int
  | [], a => a
  | c :: cs, a => if 0 ≤ a then runA gs cs (rd (rd_L2 gs a) (((c.toNat : Int) - 97) % 256)) else a
theorem runA_neg (gs : List (List Int)) (l : List UInt8) (a : Int) (h : a < 0) : runA gs l a = a := by
  cases l with
  | nil => rfl
  | cons c cs => rw [runA, if_neg (by omega)]
/-- A right automaton's facts. -/
theorem autoOk_facts {b : Int} {es : List Bool} {gs : List (List Int)} (h : autoOk b es gs = true) : 1 ≤ es.length ∧ es.length ≤ 6 ∧ gs.length = es.length ∧ 0 ≤ b ∧ b < es.length ∧ ∀ x ∈ gs, x.length = 4 ∧ ∀ y ∈ x, -1 ≤ y ∧ y < es.length := by
  unfold autoOk at h
  rw [Bool.and_eq_true] at h
  obtain ⟨h1, h2⟩ := h
  obtain ⟨a1, a2, a3, a4, a5⟩ := of_decide_eq_true h1
  refine ⟨a1, a2, a3, a4, a5, fun x hx => ?_⟩
  have := List.all_eq_true.1 h2 x hx
  unfold okRow at this
  rw [Bool.and_eq_true] at this
  refine ⟨of_decide_eq_true this.1, fun y hy => ?_⟩
  have hy' := List.all_eq_true.1 this.2 y hy
  unfold goal at hy'
  rw [Bool.and_eq_true] at hy'
  exact ⟨of_decide_eq_true hy'.1, of_decide_eq_true hy'.2⟩
theorem rd_mem4 (l : List Int) (i : Int) (h0 : 0 ≤ i) (h1 : i < l.length) : rd l i ∈ l := by
  unfold rd
  rw [List.getD_eq_getElem?_getD, List.getElem?_eq_getElem (show i.toNat < l.length by omega)]
  exact List.getElem_mem _
theorem small_idx {c : UInt8} (h : smallB c = true) : 0 ≤ ((c.toNat : Int) - 97) % 256 ∧ ((c.toNat : Int) - 97) % 256 < 4 := by
  have := of_decide_eq_true h
  omega
/-- A step within a right automaton stays within it. -/
theorem step_in {b : Int} {es : List Bool} {gs : List (List Int)} (h : autoOk b es gs = true) (a : Int) (h0 : 0 ≤ a) (h1 : a < es.length) (c : UInt8) (hc : smallB c = true) :
    (rd_L2 gs a).length = 4 ∧ -1 ≤ rd (rd_L2 gs a) (((c.toNat : Int) - 97) % 256) ∧ rd (rd_L2 gs a) (((c.toNat : Int) - 97) % 256) < es.length := by
  obtain ⟨a1, a2, a3, a4, a5, a6⟩ := autoOk_facts h
  have hm := rdL2_mem gs a.toNat (by omega)
  rw [show ((a.toNat : Nat) : Int) = a by omega] at hm
  obtain ⟨h4, hv⟩ := a6 _ hm
  have hi := small_idx hc
  have := hv _ (rd_mem4 _ _ hi.1 (by omega))
  exact ⟨h4, this.1, this.2⟩
theorem runA_lt {b : Int} {es : List Bool} {gs : List (List Int)} (h : autoOk b es gs = true) : ∀ (l : List UInt8) (a : Int), smallR l = true → a < es.length → runA gs l a < es.length := by
  intro l
  induction l with
  | nil => intro a _ h1; exact h1
  | cons c cs ih =>
    intro a hl h1
    rw [runA]
    split
    · rename_i h0
      have hc : smallB c = true ∧ smallR cs = true := by simpa [smallR] using hl
      exact ih _ hc.2 (step_in h a h0 h1 c hc.1).2.2
    · exact h1
theorem specGo_l0 (b : Int) (es : List Bool) (gs : List (List Int)) (h : autoOk b es gs = true) (t : ByteArray) (ht : t.size ≤ 1048576) (hsm : smallR t.data.toList = true) (d : Nat) : ∀ (i : Nat) (a : Int), i + d = t.size → a < es.length →
    EvP (fun k => spec_l13Go.l0 k a t (i : Int) b es gs) (fun r => r = runA gs (t.data.toList.drop i) a) := by
  obtain ⟨a1, a2, a3, a4, a5, a6⟩ := autoOk_facts h
  induction d with
  | zero =>
    intro i a hd ha
    refine EvP.step ?_
    simp only [spec_l13Go.l0]
    refine EvP.no (by omega) (EvP.now ?_)
    rw [List.drop_eq_nil_of_le (by rw [len_tl]; omega)]
    rfl
  | succ d ih =>
    intro i a hd ha
    refine EvP.step ?_
    simp only [spec_l13Go.l0]
    refine EvP.yes (by omega) ?_
    have hcm : smallB (t.data.toList[i]'(by rw [len_tl]; omega)) = true := List.all_eq_true.1 hsm _ (List.getElem_mem _)
    rw [drop_cons t i (by omega)]
    have hb := bt_tl t i (by omega)
    generalize (t.data.toList[i]'(by rw [len_tl]; omega)) = c at hb hcm
    rw [hb]
    refine EvP.ite (fun h0 => ?_) fun h0 => EvP.now (by rw [runA, if_neg (by omega)])
    have hs := step_in h a h0 ha c hcm
    have hi := small_idx hcm
    refine EvP.yes h0 (EvP.yes (by omega) (EvP.yes (by omega) (EvP.yes hi.1 (EvP.yes (by omega) ?_))))
    rw [w64 (x := (i : Int) + 1) (by omega) (by omega), runA, if_pos h0]
    exact ih (i + 1) _ (by omega) hs.2.2
theorem specGo_v (b : Int) (es : List Bool) (gs : List (List Int)) (h : autoOk b es gs = true) (t : ByteArray) (ht : t.size ≤ 1048576) (hsm : smallR t.data.toList = true) (a : Int) (ha : a < es.length) :
    EvP (fun k => spec_l13Go.f k b es gs a t) (fun r => r = runA gs t.data.toList a) := by
  unfold spec_l13Go.f
  refine (specGo_l0 b es gs h t ht hsm t.size 0 a (by omega) ha).mono fun r hr => ?_
  rw [hr, List.drop_zero]
/-- Whether an automaton takes a text. -/
def autoIs (b : Int) (es : List Bool) (gs : List (List Int)) (t : ByteArray) : Bool := autoOk b es gs && (textOk t && (decide (0 ≤ runA gs t.data.toList b) && rdOf false es (runA gs t.data.toList b)))
theorem specIs_v (b : Int) (es : List Bool) (gs : List (List Int)) (t : ByteArray) (ht : t.size ≤ 1048576) : EvP (fun k => spec_AutoIs.f k b es gs t) (fun r => r = autoIs b es gs t) := by
  unfold spec_AutoIs.f
  refine EvP.bind (specAutoOk_v b es gs) fun x hx => ?_
  refine EvP.ite (fun h => ?_) fun h => EvP.now (by unfold autoIs; rw [← hx]; simp [h])
  rw [h] at hx
  refine EvP.bind (specText_v t ht) fun y hy => ?_
  refine EvP.ite (fun h2 => ?_) fun h2 => EvP.now (by unfold autoIs; rw [← hx, ← hy]; simp [h2])
  rw [h2] at hy
  have hsm : smallR t.data.toList = true := by
    have := hy.symm
    unfold textOk at this
    exact (Bool.and_eq_true _ _ ▸ this).2
  obtain ⟨a1, a2, a3, a4, a5, a6⟩ := autoOk_facts hx.symm
  refine EvP.bind (specGo_v b es gs hx.symm t ht hsm b a5) fun z hz => ?_
  have hlt := runA_lt hx.symm t.data.toList b hsm a5
  rw [← hz] at hlt
  refine EvP.ite (fun h3 => EvP.yes h3 (EvP.yes hlt (EvP.now ?_))) fun h3 => EvP.now ?_
  · unfold autoIs
    rw [← hx, ← hy, ← hz, decide_eq_true h3]
    rfl
  · unfold autoIs
    rw [← hx, ← hy, ← hz, decide_eq_false h3]
    rfl
theorem implIs_l0 (b : Int) (es : List Bool) (gs : List (List Int)) (h : autoOk b es gs = true) (t : ByteArray) (ht : t.size ≤ 1048576) (hsm : smallR t.data.toList = true) (d : Nat) : ∀ (i : Nat) (a : Int), i + d = t.size → 0 ≤ a → a < es.length →
    EvP (fun k => impl_AutoIs.l0 k t a (t.size : Int) (i : Int) b es gs) (fun r => r = (decide (0 ≤ runA gs (t.data.toList.drop i) a) && rdOf false es (runA gs (t.data.toList.drop i) a))) := by
  obtain ⟨a1, a2, a3, a4, a5, a6⟩ := autoOk_facts h
  induction d with
  | zero =>
    intro i a hd h0 ha
    refine EvP.step ?_
    simp only [impl_AutoIs.l0]
    refine EvP.no (by omega) (EvP.yes h0 (EvP.yes (by omega) (EvP.now ?_)))
    rw [List.drop_eq_nil_of_le (by rw [len_tl]; omega)]
    rw [runA, decide_eq_true h0]
    rfl
  | succ d ih =>
    intro i a hd h0 ha
    refine EvP.step ?_
    simp only [impl_AutoIs.l0]
    refine EvP.yes (by omega) (EvP.yes (by omega) (EvP.yes (by omega) ?_))
    have hcm : smallB (t.data.toList[i]'(by rw [len_tl]; omega)) = true := List.all_eq_true.1 hsm _ (List.getElem_mem _)
    rw [drop_cons t i (by omega)]
    have hb := bt_tl t i (by omega)
    generalize (t.data.toList[i]'(by rw [len_tl]; omega)) = c at hb hcm
    rw [hb]
    have hs := step_in h a h0 ha c hcm
    have hi := small_idx hcm
    unfold impl_Auto_goes.f
    rw [if_pos h0, if_pos (show a < (gs.length : Int) by omega), if_pos hi.1, if_pos (by omega)]
    refine EvP.bindSome ?_
    rw [w64 (x := (i : Int) + 1) (by omega) (by omega), runA, if_pos h0]
    refine EvP.ite (fun h3 => EvP.now ?_) fun h3 => ih (i + 1) _ (by omega) (by omega) hs.2.2
    rw [runA_neg _ _ _ h3, decide_eq_false (by omega)]
    rfl
theorem implIs_v (b : Int) (es : List Bool) (gs : List (List Int)) (t : ByteArray) (ht : t.size ≤ 1048576) : EvP (fun k => impl_AutoIs.f k b es gs t) (fun r => r = autoIs b es gs t) := by
  unfold impl_AutoIs.f
  have hf : EvP (fun k => impl_AutoIs.j0 k t true b es gs) (fun r => r = false) := by
    refine EvP.step ?_
    simp only [impl_AutoIs.j0]
    exact EvP.yes trivial (EvP.now rfl)
  refine EvP.bind (EvP.val (x := impl_AutoOk.f b es gs) (P := fun u => u = autoOk b es gs) rfl rfl) fun x hx => ?_
  refine EvP.ite (fun h => ?_) fun h => hf.mono fun r hr => by rw [hr]; unfold autoIs; rw [← hx]; simp [h]
  rw [h] at hx
  rw [implText_val t ht]
  refine EvP.bindSome ?_
  cases hy : textOk t with
  | false =>
    refine hf.mono fun r hr => ?_
    rw [hr]
    unfold autoIs
    rw [← hx, hy]
    rfl
  | true =>
    have hsm : smallR t.data.toList = true := by
      have := hy
      unfold textOk at this
      exact (Bool.and_eq_true _ _ ▸ this).2
    obtain ⟨a1, a2, a3, a4, a5, a6⟩ := autoOk_facts hx.symm
    refine EvP.step ?_
    simp only [impl_AutoIs.j0]
    refine EvP.no (by simp) ?_
    refine (implIs_l0 b es gs hx.symm t ht hsm t.size 0 b (by omega) a4 a5).mono fun r hr => ?_
    rw [hr, List.drop_zero]
    unfold autoIs
    rw [← hx, hy]
    rfl
end Go.Proofs.YtdfciihjhknedaaDoor.DFnExactAutoIs
