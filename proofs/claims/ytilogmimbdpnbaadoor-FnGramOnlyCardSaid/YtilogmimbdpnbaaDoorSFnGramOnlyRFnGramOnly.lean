/- YtilogmimbdpnbaaDoorSFnGramOnlyRFnGramOnly: a text of FnGramOnly's claim, out of the kit's print, cut down to what is used. -/
import Derived.Test.YtilogmimbdpnbaaDoorSFnGramOnlyEv
import Derived.Test.YtilogmimbdpnbaaDoorSFnGramOnlyQFnGramOnlyx11
namespace Go.Proofs.YtilogmimbdpnbaaDoor.DFnGramOnly
open Go.RowKit Go.Proofs.YtilogmimbdpnbaaDoor.PFnGramOnly Go.Proofs.YtilogmimbdpnbaaDoorW.PrintWords Go.Proofs.YtilogmimbdpnbaaDoorW.PrintLast Go.Proofs.YtilogmimbdpnbaaDoor.Ev
set_option linter.unusedVariables false
set_option linter.unusedSimpArgs false
def Bytes (s : List Int) : Prop := (∀ x ∈ s, 0 ≤ x ∧ x ≤ 255) ∧ s.length ≤ 2000
theorem wf_byte {x : Int} (h : (Lit.int .u8 x).wf = true) : 0 ≤ x ∧ x ≤ 255 := by
  simp [Lit.wf, IntKind.min, IntKind.max, IntKind.signed, IntKind.bits] at h
  omega
theorem open_ev (l : List Int) (h : ∀ x ∈ l, (Lit.int .u8 x).wf = true) : EvP (fun _ => spec_l17Open.f l) (fun r => Bytes r.1 ∧ r.2 = 0) := by
  unfold spec_l17Open.f
  by_cases h1 : (l.length : Int) > 2000
  · simp only [if_pos h1, if_pos (show (2000 : Int) ≤ l.length by omega)]
    exact EvP.now ⟨⟨fun x hx => wf_byte (h x (List.mem_of_mem_take hx)), by simp; omega⟩, rfl⟩
  · simp only [if_neg h1]
    exact EvP.now ⟨⟨fun x hx => wf_byte (h x hx), by show l.length ≤ 2000; omega⟩, rfl⟩
theorem pick_ev (s : List Int) (hs : Bytes s) (p n : Int) (hp : 0 ≤ p) (hp2 : p ≤ 1000000000) (hn : 1 ≤ n) (hn2 : n ≤ 1000000) :
    EvP (fun k => spec_l17Rd_pick.f k s p n) (fun r => 0 ≤ r.1 ∧ r.1 < n ∧ r.2 = p + 1) := by
  have hb := hs.1
  have hl := hs.2
  have e1 : wrap64 (p + 1) = p + 1 := w64 (by omega) (by omega)
  have e2 : wrap64 (p + 1 - 1) = p := by rw [w64 (by omega) (by omega)]; omega
  unfold spec_l17Rd_pick.f
  refine EvP.no (by omega) ?_
  refine EvP.step ?_
  simp only [spec_l17Rd_pick.j0, e1, e2]
  by_cases h0 : s.length = 0
  · have h0' : ((s.length : Int) == 0) = true := by simp [h0]
    refine EvP.yes h0' ?_
    exact EvP.now ⟨by omega, by show (0 : Int) < n; omega, rfl⟩
  · have h0' : ¬ ((s.length : Int) == 0) = true := by simp [h0]
    refine EvP.no h0' ?_
    refine EvP.ite (fun h1 => ?_) (fun h1 => ?_)
    · refine EvP.yes hp ?_
      refine EvP.no (by omega) ?_
      have hx := rd_byte hb p
      rw [w64 (x := rd s p) (by omega) (by omega)]
      have := tmod_range (rd s p) n hx.1 hn
      exact EvP.now ⟨this.1, this.2, rfl⟩
    · refine EvP.no (by omega) ?_
      have hL : (1 : Int) ≤ s.length := by omega
      have t1 := tmod_range p s.length hp hL
      have e3 : wrap64 (p * 7) = p * 7 := w64 (by omega) (by omega)
      have e4 : wrap64 (p * 7 + 3) = p * 7 + 3 := w64 (by omega) (by omega)
      have t2 := tmod_range (p * 7 + 3) s.length (by omega) hL
      rw [e3, e4]
      refine EvP.yes t1.1 (EvP.yes t1.2 (EvP.yes t2.1 (EvP.yes t2.2 (EvP.no (by omega) ?_))))
      generalize hA : rd s (p.tmod s.length) = A
      generalize hB : rd s ((p * 7 + 3).tmod s.length) = B
      have hA' := rd_byte hb (p.tmod s.length)
      have hB' := rd_byte hb ((p * 7 + 3).tmod s.length)
      rw [hA] at hA'
      rw [hB] at hB'
      have hq : 0 ≤ Int.tdiv p s.length ∧ Int.tdiv p s.length ≤ p := ⟨Int.tdiv_nonneg hp (by omega), by
        rw [Int.tdiv_eq_ediv_of_nonneg hp]; exact Int.ediv_le_self _ hp⟩
      generalize Int.tdiv p s.length = Q at hq
      rw [w64 (x := A) (by omega) (by omega), w64 (x := B) (by omega) (by omega), w64 (x := A * 131) (by omega) (by omega), w64 (x := B * 1117) (by omega) (by omega), w64 (x := p * 29) (by omega) (by omega), w64 (x := Q) (by omega) (by omega), w64 (x := Q * 53) (by omega) (by omega), w64 (x := A * 131 + B * 1117) (by omega) (by omega), w64 (x := A * 131 + B * 1117 + p * 29) (by omega) (by omega), w64 (x := A * 131 + B * 1117 + p * 29 + Q * 53) (by omega) (by omega)]
      generalize hX : A * 131 + B * 1117 + p * 29 + Q * 53 = X
      have hX1 : 0 ≤ X ∧ X ≤ 100000000000 := by omega
      have hd : 0 ≤ Int.tdiv X 64 ∧ Int.tdiv X 64 ≤ X := ⟨Int.tdiv_nonneg hX1.1 (by omega), by
        rw [Int.tdiv_eq_ediv_of_nonneg hX1.1]; exact Int.ediv_le_self _ hX1.1⟩
      generalize Int.tdiv X 64 = Y at hd
      rw [w64 (x := Y) (by omega) (by omega)]
      have := tmod_range (Go.bits .xor .i64 X Y) n (xor_nonneg X Y (by omega) (by omega) (by omega) (by omega)) hn
      exact EvP.now ⟨this.1, this.2, rfl⟩
theorem rdOf_mem {α : Type} (d : α) (l : List α) (i : Int) (h0 : 0 ≤ i) (h1 : i < l.length) : rdOf d l i ∈ l := by
  unfold rdOf
  rw [List.getD_eq_getElem?_getD, List.getElem?_eq_getElem (show i.toNat < l.length by omega)]
  exact List.getElem_mem _
theorem rd_mem (l : List Int) (i : Int) (h0 : 0 ≤ i) (h1 : i < l.length) : rd l i ∈ l := by
  unfold rd
  rw [List.getD_eq_getElem?_getD, List.getElem?_eq_getElem (show i.toNat < l.length by omega)]
  exact List.getElem_mem _
theorem of_ev (s : List Int) (hs : Bytes s) (p : Int) (l : List ByteArray) (hp : 0 ≤ p) (hp2 : p ≤ 1000000000) (hl : 1 ≤ l.length) (hl2 : l.length ≤ 1000) :
    EvP (fun k => spec_l17Rd_of.f k s p l) (fun r => r.1 ∈ l ∧ r.2 = p + 1) := by
  unfold spec_l17Rd_of.f
  refine EvP.bind (pick_ev s hs p l.length hp hp2 (by omega) (by omega)) fun a ha => ?_
  exact EvP.yes ha.1 (EvP.yes ha.2.1 (EvP.now ⟨rdOf_mem _ _ _ ha.1 ha.2.1, ha.2.2⟩))
theorem num_ev (s : List Int) (hs : Bytes s) (p : Int) (l : List Int) (hp : 0 ≤ p) (hp2 : p ≤ 1000000000) (hl : 1 ≤ l.length) (hl2 : l.length ≤ 1000) :
    EvP (fun k => spec_l17Rd_num.f k s p l) (fun r => r.1 ∈ l ∧ r.2 = p + 1) := by
  unfold spec_l17Rd_num.f
  refine EvP.bind (pick_ev s hs p l.length hp hp2 (by omega) (by omega)) fun a ha => ?_
  exact EvP.yes ha.1 (EvP.yes ha.2.1 (EvP.now ⟨rd_mem _ _ ha.1 ha.2.1, ha.2.2⟩))
end Go.Proofs.YtilogmimbdpnbaaDoor.DFnGramOnly
