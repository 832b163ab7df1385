/- FnEditsUndo, over numbers and lists: for every code the law answers true. Conditions: none. -/
import Derived.Test.YtilogmimbdpnbaaDoorEFnEditsUndo
import Derived.Test.YtilogmimbdpnbaaDoorUFnEditsUndo
namespace Go.Proofs.YtilogmimbdpnbaaDoor.Pure
open Go.RowKit Go.Proofs.YtilogmimbdpnbaaDoor.PFnEditsUndo Go.Proofs.YtilogmimbdpnbaaDoorW.PrintWords Go.Proofs.YtilogmimbdpnbaaDoorW.PrintLast Go.Proofs.YtilogmimbdpnbaaDoor.Ev Go.Proofs.YtilogmimbdpnbaaDoor.DFnEditsUndo
set_option linter.unusedVariables false
set_option linter.unusedSimpArgs false

theorem undo_l0 (s : ByteArray) (hs : s.size ≤ 1000) (es : List S24) (hes : ∀ x ∈ es, x.f2.size ≤ 10) (hn : es.length ≤ 12) (x : ByteArray) (d : Nat) : ∀ (i : Nat) (backs : List S24) (at_ : ByteArray), i + d = es.length → backs.length = i → (∀ x ∈ backs, x.f2.size ≤ 10) →
    smL at_.data.toList = true → at_.size ≤ 20 → runE at_.data.toList (es.drop i) = some x.data.toList → runE at_.data.toList backs = some s.data.toList →
    EvP (fun k => laws_FnEditsUndo.l0 k s es x backs at_ (i : Int)) (fun r => r = true) := by
  induction d with
  | zero =>
    intro i backs at_ hd hb hbs hsm h20 hrem hback
    refine EvP.step ?_
    simp only [laws_FnEditsUndo.l0]
    refine EvP.no (by omega) ?_
    rw [List.drop_eq_nil_of_le (by omega)] at hrem
    have hx : at_.data.toList = x.data.toList := by simpa [runE] using hrem
    have hx' : at_ = x := ext_inj _ _ hx
    subst hx'
    refine EvP.bind (implDos_ev at_ backs (by omega) hbs (by omega)) fun r hr => ?_
    obtain ⟨h1, h2⟩ := hr
    have hruns : runs at_.data.toList backs = some s.data.toList := by
      unfold runs
      rw [if_pos ⟨hsm, by rw [len_tl]; omega, by omega⟩]
      exact hback
    rw [hruns] at h1 h2
    refine EvP.yes h1 (EvP.now ?_)
    rw [tl, tl, h2]
    simp
  | succ d ih =>
    intro i backs at_ hd hb hbs hsm h20 hrem hback
    refine EvP.step ?_
    simp only [laws_FnEditsUndo.l0]
    refine EvP.yes (by omega) (EvP.yes (by omega) ?_)
    have hi : i < es.length := by omega
    have hsz := rd_small es hes i hi
    rw [rdE es i hi] at hrem
    simp only [runE] at hrem
    have hok : okE at_.data.toList (rd_T24 es i) = true := by
      cases h : okE at_.data.toList (rd_T24 es i) with
      | true => rfl
      | false => rw [h] at hrem; simp at hrem
    rw [if_pos hok] at hrem
    have hok' := hok
    unfold okE at hok'
    refine EvP.bind (implBack_ev at_ _ _ _ (by omega) (by omega)) fun u hu => ?_
    obtain ⟨hu1, hu2, hu3, hu4⟩ := hu
    rw [hok'] at hu1 hu2 hu3 hu4
    simp only [if_true] at hu2 hu3 hu4
    refine EvP.yes hu1 ?_
    refine EvP.bindSome ?_
    refine EvP.yes (by simp; omega) ?_
    refine EvP.bind (implDo_ev at_ _ _ _ (by omega) (by omega)) fun z hz => ?_
    obtain ⟨hz1, hz2⟩ := hz
    rw [hok'] at hz2
    simp only [if_true] at hz2
    have hz3 : z.1.data.toList = doE at_.data.toList (rd_T24 es i) := hz2
    have hds := do_small hok
    rw [w64 (x := (i : Int) + 1) (by omega) (by omega)]
    have hus : u.2.2.1.size ≤ 10 := by
      rw [← len_tl, hu4]
      unfold bkC
      split
      · simp
      · rw [List.length_take]; omega
    refine ih (i + 1) _ z.1 (by omega) (by simp; omega) (fun y hy => ?_) (by rw [hz3]; exact hds.1) (by rw [← len_tl, hz3]; exact hds.2) (by rw [hz3]; exact hrem) ?_
    · simp only [List.singleton_append, List.mem_cons] at hy
      rcases hy with rfl | hy
      · exact hus
      · exact hbs y hy
    · simp only [List.singleton_append, runE]
      obtain ⟨w1, w2⟩ := undo _ _ _ _ hok'
      have g1 : okE z.1.data.toList (⟨u.1, u.2.1, u.2.2.1⟩ : S24) = true := by
        unfold okE
        dsimp only
        rw [hu2, hu3, hu4, hz3]
        exact w1
      have g2 : doE z.1.data.toList (⟨u.1, u.2.1, u.2.2.1⟩ : S24) = at_.data.toList := by
        unfold doE
        dsimp only
        rw [hu2, hu3, hu4, hz3]
        exact w2
      rw [if_pos g1, g2]
      exact hback

theorem FnEditsUndo : laws_FnEditsUndo.Pure := by
  intro l0 _ _ hw
  refine EvP.rounds ?_
  unfold laws_FnEditsUndo.f
  refine EvP.ite (fun _ => EvP.now rfl) fun _ => ?_
  refine EvP.bind (drawEdits_ev l0 hw) fun g hg => ?_
  obtain ⟨s, es⟩ := g
  have hs : s.size ≤ 100 := hg.1
  have hl : es.length ≤ 13 := hg.2.1
  have hes : ∀ x ∈ es, x.f2.size ≤ 10 := hg.2.2
  clear hg
  dsimp only
  refine EvP.bind (implDos_ev s es (by omega) hes (by omega)) fun x hx => ?_
  refine EvP.bind (specDos_ev s es (by omega) hes (by omega)) fun y hy => ?_
  obtain ⟨x1, x2⟩ := x
  obtain ⟨y1, y2⟩ := y
  obtain ⟨hx1, hx2⟩ := hx
  obtain ⟨hy1, hy2⟩ := hy
  dsimp only at *
  refine EvP.no (by rw [hx1, hy1]; simp) ?_
  refine EvP.step ?_
  simp only [laws_FnEditsUndo.j0]
  refine EvP.ite (fun _ => EvP.now (by rw [hx1, hy1]; simp)) fun h => ?_
  have h2 : x2 = true := by simpa using h
  rw [hx1] at h2
  obtain ⟨m, hm⟩ := Option.isSome_iff_exists.1 h2
  rw [hm] at hx2
  have hm' := hm
  unfold runs at hm'
  by_cases hc : smL s.data.toList = true ∧ s.data.toList.length ≤ 20 ∧ es.length ≤ 12
  · rw [if_pos hc] at hm'
    refine undo_l0 s (by omega) es hes hc.2.2 x1 es.length 0 [] s (by omega) rfl (by simp) hc.1 (by rw [← len_tl]; exact hc.2.1) ?_ rfl
    rw [List.drop_zero, hm', hx2]
    rfl
  · rw [if_neg hc] at hm'
    cases hm'
end Go.Proofs.YtilogmimbdpnbaaDoor.Pure
