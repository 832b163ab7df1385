/- FnEditsDo, over numbers and lists: for every code the law answers true. Conditions: none. -/
import Derived.Test.YtilogmimbdpnbaaDoorEFnEditsDo
import Derived.Test.YtilogmimbdpnbaaDoorNFnEditsDo
namespace Go.Proofs.YtilogmimbdpnbaaDoor.Pure
open Go.RowKit Go.Proofs.YtilogmimbdpnbaaDoor.PFnEditsDo Go.Proofs.YtilogmimbdpnbaaDoorW.PrintWords Go.Proofs.YtilogmimbdpnbaaDoorW.PrintLast Go.Proofs.YtilogmimbdpnbaaDoor.Ev Go.Proofs.YtilogmimbdpnbaaDoor.DFnEditsDo Go.Proofs.YtilogmimbdpnbaaDoor.Lev
set_option linter.unusedVariables false
set_option linter.unusedSimpArgs false

theorem far_step (s z z' : ByteArray) (e : S24) (h : okE z.data.toList e = true) (hz : z'.data.toList = doE z.data.toList e) (n : Nat) (hf : far s z ≤ n) : far s z' ≤ n + 1 := by
  have h1 := far_tri s z z'
  have h2 := near _ _ _ _ h
  have h3 : far z z' ≤ 1 := by rw [far_lev, hz]; exact h2
  omega
theorem do_l0 (s : ByteArray) (hs : s.size ≤ 1000) (es : List S24) (hes : ∀ x ∈ es, x.f2.size ≤ 10) (hn : es.length ≤ 12) (x : ByteArray) (hx : x.size ≤ 1000) (d : Nat) : ∀ (i : Nat) (z : ByteArray), i + d = es.length →
    z.size ≤ 20 → runE z.data.toList (es.drop i) = some x.data.toList → far s z ≤ i →
    EvP (fun k => laws_FnEditsDo.l0 k s es x z (i : Int)) (fun r => r = true) := by
  induction d with
  | zero =>
    intro i z hd h20 hrem hfar
    refine EvP.step ?_
    simp only [laws_FnEditsDo.l0]
    refine EvP.no (by omega) ?_
    rw [List.drop_eq_nil_of_le (by omega)] at hrem
    have hx : z.data.toList = x.data.toList := by simpa [runE] using hrem
    have hx' : z = x := ext_inj _ _ hx
    subst hx'
    refine EvP.yes rfl ?_
    refine EvP.bind (implFar_ev s z hs (by omega)) fun n hn' => EvP.now ?_
    rw [hn']
    exact decide_eq_true (by omega)
  | succ d ih =>
    intro i z hd h20 hrem hfar
    refine EvP.step ?_
    simp only [laws_FnEditsDo.l0]
    refine EvP.yes (by omega) (EvP.yes (by omega) ?_)
    have hi : i < es.length := by omega
    have hsz := rd_small es hes i hi
    rw [rdE es i hi] at hrem
    simp only [runE] at hrem
    have hok : okE z.data.toList (rd_T24 es i) = true := by
      cases h : okE z.data.toList (rd_T24 es i) with
      | true => rfl
      | false => rw [h] at hrem; simp at hrem
    rw [if_pos hok] at hrem
    refine EvP.bind (implDo_ev z _ _ _ (by omega) (by omega)) fun u hu => ?_
    obtain ⟨hu1, hu2⟩ := hu
    have hok' : okL z.data.toList (rd_T24 es i).f0 (rd_T24 es i).f1 (rd_T24 es i).f2.data.toList = true := hok
    rw [hok'] at hu1 hu2
    simp only [if_true] at hu2
    have hu3 : u.1.data.toList = doE z.data.toList (rd_T24 es i) := hu2
    have hds := do_small hok
    refine EvP.yes hu1 ?_
    rw [w64 (x := (i : Int) + 1) (by omega) (by omega)]
    exact ih (i + 1) u.1 (by omega) (by rw [← len_tl, hu3]; exact hds.2) (by rw [hu3]; exact hrem) (far_step s z u.1 _ hok hu3 i hfar)

theorem FnEditsDo : laws_FnEditsDo.Pure := by
  intro l0 _ _ hw
  refine EvP.rounds ?_
  unfold laws_FnEditsDo.f
  refine EvP.ite (fun _ => EvP.now rfl) fun _ => ?_
  refine EvP.bind (drawEdits_ev l0 hw) fun g hg => ?_
  obtain ⟨s, es⟩ := g
  have hs : s.size ≤ 100 := hg.1
  have hl : es.length ≤ 13 := hg.2.1
  have hes : ∀ x ∈ es, x.f2.size ≤ 10 := hg.2.2
  clear hg
  dsimp only
  refine EvP.bind (implDos_ev s es (by omega) hes (by omega)) fun x hx => ?_
  refine EvP.bind (specDos_ev s es (by omega) hes (by omega)) fun y hy => ?_
  obtain ⟨x1, x2⟩ := x
  obtain ⟨y1, y2⟩ := y
  obtain ⟨hx1, hx2⟩ := hx
  obtain ⟨hy1, hy2⟩ := hy
  dsimp only at *
  have e1 : x1.toList = y1.toList := by rw [tl, tl, hx2, hy2]
  refine EvP.yes e1 ?_
  refine EvP.no (by rw [hx1, hy1]; simp) ?_
  refine EvP.step ?_
  simp only [laws_FnEditsDo.j0]
  refine EvP.ite (fun _ => EvP.yes e1 (EvP.now (by rw [hx1, hy1]; simp))) fun h => ?_
  have h2 : x2 = true := by simpa using h
  rw [hx1] at h2
  obtain ⟨m, hm⟩ := Option.isSome_iff_exists.1 h2
  rw [hm] at hx2
  have hm' := hm
  unfold runs at hm'
  by_cases hc : smL s.data.toList = true ∧ s.data.toList.length ≤ 20 ∧ es.length ≤ 12
  · rw [if_pos hc] at hm'
    have hx3 : x1.data.toList = m := hx2
    refine EvP.bind (implDos_ev s [] (by omega) (by simp) (by simp)) fun z hz => ?_
    obtain ⟨hz1, hz2⟩ := hz
    have hr : runs s.data.toList ([] : List S24) = some s.data.toList := by
      unfold runs
      rw [if_pos ⟨hc.1, hc.2.1, by simp⟩]
      rfl
    rw [hr] at hz2
    have hz3 : z.1 = s := ext_inj _ _ hz2
    rw [hz3]
    have hxs : x1.size ≤ 1000 := by
      rw [← len_tl, hx3]
      have : ∀ (es : List S24) (l m : List UInt8), l.length ≤ 20 → runE l es = some m → m.length ≤ 20 := by
        intro es
        induction es with
        | nil => intro l m hl h; simp only [runE, Option.some.injEq] at h; rw [← h]; exact hl
        | cons e es ih =>
          intro l m hl h
          simp only [runE] at h
          cases ho : okE l e with
          | true => rw [ho, if_pos rfl] at h; exact ih _ _ (do_small ho).2 h
          | false => rw [ho] at h; simp at h
      have := this es _ _ hc.2.1 hm'
      omega
    refine do_l0 s (by omega) es hes hc.2.2 x1 hxs es.length 0 s (by omega) (by rw [← len_tl]; exact hc.2.1) ?_ ?_
    · rw [List.drop_zero, hm', hx3]
    · rw [(far_zero s s).2 rfl]; exact Nat.le_refl _
  · rw [if_neg hc] at hm'
    cases hm'
end Go.Proofs.YtilogmimbdpnbaaDoor.Pure
