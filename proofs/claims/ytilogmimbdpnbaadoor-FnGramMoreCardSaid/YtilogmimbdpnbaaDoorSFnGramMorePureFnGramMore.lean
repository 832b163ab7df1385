/- YtilogmimbdpnbaaDoorSFnGramMorePureFnGramMore: a text of FnGramMore's claim, out of the kit's print, cut down to what is used. -/
import Derived.Test.YtilogmimbdpnbaaDoorSFnGramMoreOFnGramMore
namespace Go.Proofs.YtilogmimbdpnbaaDoor.Pure
open Go.RowKit Go.Proofs.YtilogmimbdpnbaaDoor.PFnGramMore Go.Proofs.YtilogmimbdpnbaaDoorW.PrintWords Go.Proofs.YtilogmimbdpnbaaDoorW.PrintLast Go.Proofs.YtilogmimbdpnbaaDoor.Ev Go.Proofs.YtilogmimbdpnbaaDoor.DFnGramMore
set_option linter.unusedVariables false
set_option linter.unusedSimpArgs false
def lineT (x : S42) : ByteArray := ((x.f0 ++ (⟨#[62]⟩ : ByteArray)) ++ x.f1) ++ (⟨#[10]⟩ : ByteArray)
theorem isB_size {lo hi : Int} {s : ByteArray} (h : isB lo hi s = true) : s.size = 1 := by
  simp only [isB, decide_eq_true_eq] at h
  exact h.1
theorem text_l0 (l : List S42) (hl : Gr 1000 1000 l) (hok : okFrom l l.length 0 = true) (d : Nat) : ∀ (i : Nat) (acc : ByteArray), i + d = l.length → acc.size + 2000 * d ≤ 100000000 →
    EvP (fun k => impl_GramText.l0 k acc l (l.length : Int) (i : Int)) (fun r => r = (l.drop i).foldl (fun a x => a ++ lineT x) acc) := by
  induction d with
  | zero =>
    intro i acc hd ha
    refine EvP.step ?_
    simp only [impl_GramText.l0]
    refine EvP.no (by omega) (EvP.now ?_)
    rw [List.drop_eq_nil_of_le (by omega)]
    rfl
  | succ d ih =>
    intro i acc hd ha
    refine EvP.step ?_
    simp only [impl_GramText.l0]
    have hn := hl.1
    have hat := okFrom_at l l.length 0 i hok (by omega) (by omega)
    simp only [okAt, Bool.and_eq_true] at hat
    have h1 := isB_size hat.1.1
    have h2 := rd_size hl i (by omega)
    have e62 : (⟨#[62]⟩ : ByteArray).size = 1 := rfl
    have e10 : (⟨#[10]⟩ : ByteArray).size = 1 := rfl
    refine EvP.yes (by omega) (EvP.yes (by omega) (EvP.yes (by omega) (EvP.yes (by omega) (EvP.yes (by simp only [ByteArray.size_append]; omega) (EvP.yes (by simp only [ByteArray.size_append]; omega) (EvP.yes (by simp only [ByteArray.size_append]; omega) ?_))))))
    rw [w64 (x := (i : Int) + 1) (by omega) (by omega)]
    refine (ih (i + 1) _ (by omega) (by simp only [ByteArray.size_append]; omega)).mono fun r hr => ?_
    rw [hr, rd_drop l i (by omega), List.foldl_cons]
    rfl
def textT (st : ByteArray) (l : List S42) : ByteArray := l.foldl (fun a x => a ++ lineT x) (st ++ (⟨#[10]⟩ : ByteArray))
theorem text_v (st : ByteArray) (l : List S42) (hl : Gr 1000 1000 l) (hok : gramOk st l = true) : EvP (fun k => impl_GramText.f k st l) (fun r => r = textT st l) := by
  unfold impl_GramText.f
  refine EvP.bind (implOk_v st l hl) fun t ht => ?_
  have hok' := hok
  simp only [gramOk, Bool.and_eq_true] at hok'
  have h1 := isB_size hok'.1.1
  have hn := hl.1
  have e10 : (⟨#[10]⟩ : ByteArray).size = 1 := rfl
  refine EvP.yes (by rw [ht, hok]) (EvP.yes (by omega) ?_)
  exact (text_l0 l hl hok'.2 l.length 0 _ (by omega) (by simp only [ByteArray.size_append]; omega)).mono fun r hr => by rw [hr]; rfl
theorem textT_more (st : ByteArray) (l : List S42) (x : S42) : textT st (l ++ [x]) = textT st l ++ lineT x := by
  simp [textT, List.foldl_append]
theorem foldl_size (l : List S42) (hl : ∀ x ∈ l, x.f0.size ≤ 1 ∧ x.f1.size ≤ 1000) : ∀ acc : ByteArray, (l.foldl (fun a x => a ++ lineT x) acc).size ≤ acc.size + 2000 * l.length := by
  induction l with
  | nil => intro acc; simp
  | cons x l ih =>
    intro acc
    rw [List.foldl_cons]
    have h1 := ih (fun y hy => hl y (List.mem_cons_of_mem _ hy)) (acc ++ lineT x)
    have h2 := hl x (List.mem_cons_self ..)
    have e62 : (⟨#[62]⟩ : ByteArray).size = 1 := rfl
    have e10 : (⟨#[10]⟩ : ByteArray).size = 1 := rfl
    have h3 : (lineT x).size ≤ 2000 := by unfold lineT; simp only [ByteArray.size_append]; omega
    rw [ByteArray.size_append] at h1
    rw [List.length_cons]
    omega
theorem ok_mem (l : List S42) (hok : okFrom l l.length 0 = true) (x : S42) (hx : x ∈ l) : x.f0.size ≤ 1 := by
  obtain ⟨i, hi, he⟩ := List.getElem_of_mem hx
  have hat := okFrom_at l l.length 0 i hok (by omega) (by omega)
  simp only [okAt, Bool.and_eq_true] at hat
  have h1 := isB_size hat.1.1
  unfold rd_T42 at h1
  rw [List.getD_eq_getElem?_getD, show ((i : Int)).toNat = i by omega, List.getElem?_eq_getElem hi] at h1
  rw [← he]
  exact Nat.le_of_eq h1
theorem textT_size (st : ByteArray) (l : List S42) (hl : Gr 1000 1000 l) (hok : gramOk st l = true) : (textT st l).size ≤ 10000000 := by
  simp only [gramOk, Bool.and_eq_true] at hok
  have h1 := isB_size hok.1.1
  have h2 := foldl_size l (fun x hx => ⟨ok_mem l hok.2 x hx, hl.2 x hx⟩) (st ++ (⟨#[10]⟩ : ByteArray))
  have e10 : (⟨#[10]⟩ : ByteArray).size = 1 := rfl
  have hn := hl.1
  rw [ByteArray.size_append] at h2
  unfold textT
  omega
theorem rd_more (l : List S42) (x : S42) (i : Nat) (h : i < l.length) : rd_T42 (l ++ [x]) (i : Int) = rd_T42 l (i : Int) := by
  unfold rd_T42
  simp only [List.getD_eq_getElem?_getD, show ((i : Int)).toNat = i by omega]
  rw [List.getElem?_append_left h]
theorem rd_last (l : List S42) (x : S42) : rd_T42 (l ++ [x]) (l.length : Int) = x := by
  unfold rd_T42
  simp only [List.getD_eq_getElem?_getD, show ((l.length : Int)).toNat = l.length by omega]
  simp
theorem forL_more (l : List S42) (s : ByteArray) (x : S42) (hx : x.f0.toList = s.toList) (d : Nat) : ∀ i, i + d = l.length → (forL (l ++ [x]) s (d + 1) i).length = (forL l s d i).length + 1 := by
  induction d with
  | zero =>
    intro i hi
    have : i = l.length := by omega
    subst this
    simp only [forL]
    rw [rd_last, if_pos hx]
    rfl
  | succ d ih =>
    intro i hi
    have h := ih (i + 1) (by omega)
    have e1 : forL (l ++ [x]) s (d + 1 + 1) i = if (rd_T42 (l ++ [x]) (i : Int)).f0.toList = s.toList then (i : Int) :: forL (l ++ [x]) s (d + 1) (i + 1) else forL (l ++ [x]) s (d + 1) (i + 1) := rfl
    have e2 : forL l s (d + 1) i = if (rd_T42 l (i : Int)).f0.toList = s.toList then (i : Int) :: forL l s d (i + 1) else forL l s d (i + 1) := rfl
    rw [e1, e2, rd_more l x i (by omega)]
    split
    · rw [List.length_cons, List.length_cons, h]
    · exact h
theorem draw_ev (s : List Int) (h : ∀ x ∈ s, (Lit.int .u8 x).wf = true) : EvP (fun k => spec_DrawGramOk.f k s) (fun r => Gr 900 900 r.2) := by
  unfold spec_DrawGramOk.f spec_l1Draw.f
  refine EvP.bind (P := fun r => Gr 900 900 r.2) ?_ fun r hr => EvP.now hr
  refine EvP.bind (open_ev s h) fun a ha => ?_
  refine EvP.bind (gram_ev a.1 ha.1 a.2 (by omega) (by omega)) fun g hg => ?_
  refine EvP.bind (bent_ev a.1 ha.1 g.2.2 g.1 g.2.1 10 (by omega) (by omega) (by omega) (by omega) (gr_up hg.2.1 (by omega) (by omega))) fun c hc => EvP.now ?_
  exact gr_up hc.1 (by omega) (by omega)
def newR : S42 := ⟨(⟨#[68]⟩ : ByteArray), (⟨#[100, 97, 100, 98]⟩ : ByteArray)⟩
theorem line_new : lineT newR = (⟨#[68, 62, 100, 97, 100, 98, 10]⟩ : ByteArray) := by
  apply ext_inj
  unfold lineT newR
  simp
theorem law_j0 (st : ByteArray) (l : List S42) (hl : Gr 900 900 l) (t b : Bool) (ht : t = gramOk st (l ++ [newR])) (hb : b = false → t = true ∧ gramOk st l = true) :
    EvP (fun k => laws_FnGramMore.j0 k t b st l st (l ++ [newR])) (fun r => r = true) := by
  have hG : Gr 1000 1000 l := gr_up hl (by omega) (by omega)
  have hX : Gr 1000 1000 (l ++ [newR]) := by
    refine ⟨by have := hl.1; simp; omega, fun x hx => ?_⟩
    rcases List.mem_append.1 hx with hx | hx
    · exact hG.2 x hx
    · simp at hx
      subst hx
      decide
  refine EvP.step ?_
  simp only [laws_FnGramMore.j0]
  refine EvP.ite (fun _ => ?_) fun h => ?_
  · refine EvP.bind (specOk_v st _ hX) fun u hu => EvP.now ?_
    rw [hu, ← ht]
    cases t <;> rfl
  · have hb' := hb (by simpa using h)
    have hx1 : gramOk st (l ++ [newR]) = true := by rw [← ht]; exact hb'.1
    refine EvP.bind (text_v st _ hX hx1) fun u hu => ?_
    refine EvP.bind (text_v st _ hG hb'.2) fun v hv => ?_
    have hsz := textT_size st l hG hb'.2
    refine EvP.yes (by rw [hv]; omega) (EvP.yes (by rw [hu, hv, textT_more, line_new]) ?_)
    refine EvP.bind (implFor_v st _ hX _) fun p hp => ?_
    refine EvP.bind (implFor_v st _ hG _) fun q hq => EvP.now ?_
    rw [if_pos hx1] at hp
    rw [if_pos hb'.2] at hq
    have hq2 := forL_len l (⟨#[68]⟩ : ByteArray) l.length 0
    have hn := hl.1
    have hm := forL_more l (⟨#[68]⟩ : ByteArray) newR rfl l.length 0 (by omega)
    have hlen : (l ++ [newR]).length = l.length + 1 := by simp
    rw [← hlen, ← hp, ← hq] at hm
    rw [← hq] at hq2
    rw [w64 (by omega) (by omega), beq_iff_eq]
    omega
theorem FnGramMore : laws_FnGramMore.Pure := by
  intro l0 _ _ hw
  refine EvP.rounds ?_
  unfold laws_FnGramMore.f
  refine EvP.ite (fun _ => EvP.now rfl) fun _ => ?_
  refine EvP.bind (draw_ev l0 hw) fun g hg => ?_
  obtain ⟨st, l⟩ := g
  have hl : Gr 900 900 l := hg
  clear hg
  dsimp only
  have hn := hl.1
  refine EvP.bindSome (EvP.yes (by simp; omega) (EvP.bindSome (EvP.bindSome (EvP.yes (by simp; omega) (EvP.bindSome ?_)))))
  simp only [List.nil_append]
  have hG : Gr 1000 1000 l := gr_up hl (by omega) (by omega)
  have hX : Gr 1000 1000 (l ++ [newR]) := by
    refine ⟨by simp; omega, fun x hx => ?_⟩
    rcases List.mem_append.1 hx with hx | hx
    · exact hG.2 x hx
    · simp at hx
      subst hx
      decide
  refine EvP.bind (implOk_v st _ hX) fun t ht => ?_
  refine EvP.bind (specOk_v st _ hX) fun u hu => ?_
  have htu : ¬ (t != u) = true := by rw [ht, hu]; simp
  refine EvP.no htu ?_
  refine EvP.bind (specOk_v st l hG) fun w hw' => ?_
  refine EvP.ite (fun h => ?_) fun h => ?_
  · refine law_j0 st l hl t (!t) ht fun h2 => ⟨by simpa using h2, by rw [← hw', h]⟩
  · exact law_j0 st l hl t true ht fun h2 => by cases h2
end Go.Proofs.YtilogmimbdpnbaaDoor.Pure
