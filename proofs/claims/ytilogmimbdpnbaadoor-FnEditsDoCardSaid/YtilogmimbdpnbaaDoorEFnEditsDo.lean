/- What EditsDo, the program's and the reference's, answer: the edits one behind the other. -/
import Derived.Test.YtilogmimbdpnbaaDoorSFnEditsDo
import Derived.Test.YtilogmimbdpnbaaDoorVFnEditsDo
namespace Go.Proofs.YtilogmimbdpnbaaDoor.DFnEditsDo
open Go.RowKit Go.Proofs.YtilogmimbdpnbaaDoor.PFnEditsDo Go.Proofs.YtilogmimbdpnbaaDoorW.PrintWords Go.Proofs.YtilogmimbdpnbaaDoorW.PrintLast Go.Proofs.YtilogmimbdpnbaaDoor.Ev
set_option linter.unusedVariables false
set_option linter.unusedSimpArgs false

def okE (l : List UInt8) (e : S24) : Bool := okL l e.f0 e.f1 e.f2.data.toList
def doE (l : List UInt8) (e : S24) : List UInt8 := doL l e.f0 e.f1 e.f2.data.toList
def runE (l : List UInt8) : List S24 → Option (List UInt8)
  | [] => some l
  | e :: es => if okE l e = true then runE (doE l e) es else none
theorem rdE (es : List S24) (i : Nat) (h : i < es.length) : es.drop i = rd_T24 es (i : Int) :: es.drop (i + 1) := by
  rw [List.drop_eq_getElem_cons h]
  unfold rd_T24
  rw [List.getD_eq_getElem?_getD, show ((i : Int)).toNat = i by omega, List.getElem?_eq_getElem h]
  rfl
def Ran (l : List UInt8) (es : List S24) (r : ByteArray × Bool) : Prop := r.2 = (runE l es).isSome ∧ r.1.data.toList = (runE l es).getD []
theorem do_small {l : List UInt8} {e : S24} (h : okE l e = true) : smL (doE l e) = true ∧ (doE l e).length ≤ 20 := by
  have hp := ok_parts l e.f0 e.f1 e.f2.data.toList
  unfold okE at h
  rw [h] at hp
  have hp' := hp.symm
  simp only [Bool.and_eq_true, decide_eq_true_eq] at hp'
  exact hp'.2
theorem ran_step {t : ByteArray} {es : List S24} {i : Nat} (hi : i < es.length) {x : ByteArray × Bool} (hx : Done t (rd_T24 es i).f0 (rd_T24 es i).f1 (rd_T24 es i).f2 x) :
    (x.2 = true → x.1.size ≤ 20 ∧ ∀ r, Ran x.1.data.toList (es.drop (i + 1)) r → Ran t.data.toList (es.drop i) r) ∧ (¬ x.2 = true → Ran t.data.toList (es.drop i) ((⟨#[]⟩ : ByteArray), false)) := by
  obtain ⟨h1, h2⟩ := hx
  have hd := rdE es i hi
  constructor
  · intro h
    have hok : okE t.data.toList (rd_T24 es i) = true := by unfold okE; rw [← h1]; exact h
    have hv : x.1.data.toList = doE t.data.toList (rd_T24 es i) := by
      rw [h2, if_pos (by rw [← h1]; exact h)]; rfl
    refine ⟨by rw [← len_tl, hv]; exact (do_small hok).2, fun r hr => ?_⟩
    unfold Ran at *
    rw [hd]
    simp only [runE]
    rw [if_pos hok, ← hv]
    exact hr
  · intro h
    have hok : ¬ okE t.data.toList (rd_T24 es i) = true := by unfold okE; rw [← h1]; exact h
    unfold Ran
    rw [hd]
    simp only [runE]
    rw [if_neg hok]
    exact ⟨rfl, rfl⟩

theorem rd_small (es : List S24) (hs : ∀ x ∈ es, x.f2.size ≤ 10) (i : Nat) (h : i < es.length) : (rd_T24 es (i : Int)).f2.size ≤ 10 := by
  apply hs
  unfold rd_T24
  rw [List.getD_eq_getElem?_getD, show ((i : Int)).toNat = i by omega, List.getElem?_eq_getElem h]
  exact List.getElem_mem _

theorem impl_l0 (es : List S24) (hs : ∀ x ∈ es, x.f2.size ≤ 10) (hn : es.length ≤ 1000) (d : Nat) : ∀ (t : ByteArray) (i : Nat), t.size ≤ 1000 → i + d = es.length →
    EvP (fun k => impl_EditsDo.l0 k t es (es.length : Int) (i : Int)) (Ran t.data.toList (es.drop i)) := by
  induction d with
  | zero =>
    intro t i ht hd
    refine EvP.step ?_
    simp only [impl_EditsDo.l0]
    refine EvP.no (by omega) (EvP.now ?_)
    rw [List.drop_eq_nil_of_le (by omega)]
    exact ⟨rfl, rfl⟩
  | succ d ih =>
    intro t i ht hd
    refine EvP.step ?_
    simp only [impl_EditsDo.l0]
    refine EvP.yes (by omega) (EvP.yes (by omega) (EvP.yes (by omega) ?_))
    refine EvP.bind (implDo_ev t _ _ _ ht (by have := rd_small es hs i (by omega); omega)) fun x hx => ?_
    obtain ⟨g1, g2⟩ := ran_step (show i < es.length by omega) hx
    refine EvP.ite (fun h => ?_) fun h => EvP.now (g2 h)
    obtain ⟨q1, q2⟩ := g1 h
    rw [w64 (x := (i : Int) + 1) (by omega) (by omega)]
    exact (ih x.1 (i + 1) (by omega) (by omega)).mono fun r hr => q2 r hr
theorem spec_l0 (es : List S24) (hs : ∀ x ∈ es, x.f2.size ≤ 10) (hn : es.length ≤ 1000) (d : Nat) : ∀ (t : ByteArray) (i : Nat), t.size ≤ 1000 → i + d = es.length →
    EvP (fun k => spec_EditsDo.l0 k t es (i : Int)) (Ran t.data.toList (es.drop i)) := by
  induction d with
  | zero =>
    intro t i ht hd
    refine EvP.step ?_
    simp only [spec_EditsDo.l0]
    refine EvP.no (by omega) (EvP.now ?_)
    rw [List.drop_eq_nil_of_le (by omega)]
    exact ⟨rfl, rfl⟩
  | succ d ih =>
    intro t i ht hd
    refine EvP.step ?_
    simp only [spec_EditsDo.l0]
    refine EvP.yes (by omega) (EvP.yes (by omega) ?_)
    refine EvP.bind (specDo_ev t _ _ _ ht (by have := rd_small es hs i (by omega); omega)) fun x hx => ?_
    obtain ⟨g1, g2⟩ := ran_step (show i < es.length by omega) hx
    refine EvP.ite (fun h => ?_) fun h => EvP.now (g2 h)
    obtain ⟨q1, q2⟩ := g1 h
    rw [w64 (x := (i : Int) + 1) (by omega) (by omega)]
    exact (ih x.1 (i + 1) (by omega) (by omega)).mono fun r hr => q2 r hr
/-- What EditsDo answers. -/
def runs (l : List UInt8) (es : List S24) : Option (List UInt8) := if smL l = true ∧ l.length ≤ 20 ∧ es.length ≤ 12 then runE l es else none
def Runs (t : ByteArray) (es : List S24) (r : ByteArray × Bool) : Prop := r.2 = (runs t.data.toList es).isSome ∧ r.1.data.toList = (runs t.data.toList es).getD []
theorem runs_no {t : ByteArray} {es : List S24} (h : ¬ (smL t.data.toList = true ∧ t.data.toList.length ≤ 20 ∧ es.length ≤ 12)) : Runs t es ((⟨#[]⟩ : ByteArray), false) := by
  unfold Runs runs
  rw [if_neg h]
  exact ⟨rfl, rfl⟩
theorem implDos_ev (t : ByteArray) (es : List S24) (ht : t.size ≤ 1000) (hs : ∀ x ∈ es, x.f2.size ≤ 10) (hn : es.length ≤ 1000) : EvP (fun k => impl_EditsDo.f k t es) (Runs t es) := by
  have hT := len_tl t
  unfold impl_EditsDo.f
  simp only [smalls_val t 20 (by omega), Option.bind_some]
  have hj : (x : Bool) → (x = true → ¬ (smL t.data.toList = true ∧ t.data.toList.length ≤ 20 ∧ es.length ≤ 12)) → (¬ x = true → smL t.data.toList = true ∧ t.data.toList.length ≤ 20 ∧ es.length ≤ 12) → EvP (fun k => impl_EditsDo.j0 k t es x) (Runs t es) := by
    intro x h1 h2
    refine EvP.step ?_
    simp only [impl_EditsDo.j0]
    refine EvP.ite (fun h => EvP.now (runs_no (h1 h))) fun h => ?_
    have h3 := h2 h
    refine (impl_l0 es hs hn es.length t 0 ht (by omega)).mono fun r hr => ?_
    unfold Runs runs
    rw [if_pos h3]
    exact hr
  refine EvP.ite (fun h => hj _ (fun h1 => ?_) fun h1 => ?_) fun h => hj true (fun _ => ?_) (fun h => absurd rfl h)
  · have := of_decide_eq_true h1
    omega
  · simp only [Bool.and_eq_true, decide_eq_true_eq] at h h1
    exact ⟨h.2, by omega, by omega⟩
  · simp only [Bool.and_eq_true, decide_eq_true_eq] at h
    intro h'
    exact h ⟨by omega, h'.1⟩
theorem specDos_ev (t : ByteArray) (es : List S24) (ht : t.size ≤ 1000) (hs : ∀ x ∈ es, x.f2.size ≤ 10) (hn : es.length ≤ 1000) : EvP (fun k => spec_EditsDo.f k t es) (Runs t es) := by
  have hT := len_tl t
  unfold spec_EditsDo.f
  have hj : (x : Bool) → (x = true → ¬ (smL t.data.toList = true ∧ t.data.toList.length ≤ 20 ∧ es.length ≤ 12)) → (¬ x = true → smL t.data.toList = true ∧ t.data.toList.length ≤ 20 ∧ es.length ≤ 12) → EvP (fun k => spec_EditsDo.j0 k t es x) (Runs t es) := by
    intro x h1 h2
    refine EvP.step ?_
    simp only [spec_EditsDo.j0]
    refine EvP.ite (fun h => EvP.now (runs_no (h1 h))) fun h => ?_
    have h3 := h2 h
    refine (spec_l0 es hs hn es.length t 0 ht (by omega)).mono fun r hr => ?_
    unfold Runs runs
    rw [if_pos h3]
    exact hr
  refine EvP.bind (long_v t (by omega)) fun y hy => ?_
  refine EvP.ite (fun h => hj _ (fun h1 => ?_) fun h1 => ?_) fun h => hj true (fun _ => ?_) (fun h => absurd rfl h)
  · have := of_decide_eq_true h1
    omega
  · rw [hy] at h
    simp only [Bool.and_eq_true, decide_eq_true_eq] at h h1
    exact ⟨h.1, by omega, by omega⟩
  · rw [hy] at h
    simp only [Bool.and_eq_true, decide_eq_true_eq] at h
    intro h'
    exact h ⟨h'.1, by omega⟩

theorem drawEdits_ev (s : List Int) (h : ∀ x ∈ s, (Lit.int .u8 x).wf = true) : EvP (fun k => spec_DrawEditsDo.f k s) (fun r => r.1.size ≤ 100 ∧ r.2.length ≤ 13 ∧ ∀ x ∈ r.2, x.f2.size ≤ 10) := by
  unfold spec_DrawEditsDo.f
  refine EvP.bind (open_ev s h) fun a ha => ?_
  refine EvP.bind (pick_ev a.1 ha.1 a.2 7 (by omega) (by omega) (by omega) (by omega)) fun b hb => ?_
  refine EvP.bind (text_ev a.1 ha.1 b.2 b.1 (by omega) (by omega) (by omega) (by omega)) fun t ht => ?_
  refine EvP.bind (edits_ev a.1 ha.1 t.2 t.1 (by omega) (by omega) (by omega)) fun e he => EvP.now ⟨?_, he.1, he.2.1⟩
  show t.1.size ≤ 100
  omega
end Go.Proofs.YtilogmimbdpnbaaDoor.DFnEditsDo
