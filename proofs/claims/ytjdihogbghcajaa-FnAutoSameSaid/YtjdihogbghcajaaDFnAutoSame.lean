/- What the reader of draws answers: they answer, and within which bounds. -/
import Derived.Test.YtjdihogbghcajaaEv
import Derived.Test.YtjdihogbghcajaaEqFnAutoSame
namespace Go.Proofs.Ytjdihogbghcajaa.Pure
open Go Go.Proofs.Ytjdihogbghcajaa.Eng Go.Proofs.Ytjdihogbghcajaa.Eq Go.Proofs.Ytjdihogbghcajaa.Ev
set_option autoImplicit false
set_option linter.unusedVariables false
set_option linter.unusedSimpArgs false
set_option linter.unnecessarySimpa false

def Bytes (s : List Int) : Prop := (∀ x ∈ s, 0 ≤ x ∧ x ≤ 255) ∧ s.length ≤ 2000
/-- A reader, m draws ahead. -/
def Rd (m : Nat) (b : List Int) (p : Int) : Prop := Bytes b ∧ 0 ≤ p ∧ p + m ≤ 100000000
theorem Rd.less {m n : Nat} {b : List Int} {p : Int} (h : Rd m b p) (hn : n ≤ m) : Rd n b p := ⟨h.1, h.2.1, by have := h.2.2; omega⟩

theorem open_ev (l : List Int) (h : ∀ x ∈ l, (Lit.int .u8 x).wf = true) : EvP (fun k => spec_l17Open k l) (fun r => Rd 100000000 r.1 r.2) := by
  refine EvP.fn (fun k => spec_l17Open_eq k l) (EvP.dec (fun h1 => ?_) (fun h1 => ?_))
  · refine EvP.yes (by omega) (EvP.yes (by omega) (EvP.yes (by omega) (EvP.now ⟨⟨fun x hx => wf_byte (h x ?_), ?_⟩, by simp, by simp⟩)))
    · exact List.mem_of_mem_take (List.mem_of_mem_drop hx)
    · simp; omega
  · exact EvP.now ⟨⟨fun x hx => wf_byte (h x hx), by show l.length ≤ 2000; omega⟩, by simp, by simp⟩

theorem pick_ev {m : Nat} {b : List Int} {p : Int} (hr : Rd (m + 1) b p) {n : Int} (hn : 1 ≤ n) (hn2 : n ≤ 1000000) :
    EvP (fun k => spec_l17Rd_pick k b p n) (fun r => 0 ≤ r.1 ∧ r.1 < n ∧ Rd m r.2.1 r.2.2) := by
  obtain ⟨⟨hb, hl⟩, hp, hp2⟩ := hr
  have e1 : IntKind.i64.wrap (p + 1) = p + 1 := w64 (by omega) (by omega)
  have e2 : IntKind.i64.wrap (p + 1 - 1) = p := by rw [w64 (by omega) (by omega)]; omega
  have fin : ∀ x : Int, 0 ≤ x ∧ x < n → (0 ≤ (x, b, p + 1).1 ∧ (x, b, p + 1).1 < n ∧ Rd m (x, b, p + 1).2.1 (x, b, p + 1).2.2) := fun x h => ⟨h.1, h.2, ⟨hb, hl⟩, by show 0 ≤ p + 1; omega, by show p + 1 + m ≤ 100000000; omega⟩
  refine EvP.fn (fun k => spec_l17Rd_pick_eq k b p n) ?_
  rw [e1, e2]
  refine EvP.decF (fun _ => ?_) (fun h => absurd h (by omega))
  refine EvP.dec (fun h0 => EvP.now (fin 0 (by omega))) (fun h0 => ?_)
  refine EvP.dec (fun h1 => ?_) (fun h1 => ?_)
  · refine EvP.yes hp (EvP.yes h1 (EvP.no (by omega) (EvP.now (fin _ ?_))))
    have hx := getD_byte hb p.toNat
    rw [w64 (by omega) (by omega)]
    exact tmod_range _ n hx.1 hn
  · have hL : (1 : Int) ≤ b.length := by omega
    have t1 := tmod_range p b.length hp hL
    have e3 : IntKind.i64.wrap (p * 7) = p * 7 := w64 (by omega) (by omega)
    have e4 : IntKind.i64.wrap (p * 7 + 3) = p * 7 + 3 := w64 (by omega) (by omega)
    have t2 := tmod_range (p * 7 + 3) b.length (by omega) hL
    rw [e3, e4]
    refine EvP.no (by omega) (EvP.yes t1.1 (EvP.yes t1.2 (EvP.no (by omega) (EvP.yes t2.1 (EvP.yes t2.2 (EvP.no (by omega) (EvP.no (by omega) (EvP.now (fin _ ?_)))))))))
    generalize hA : b.getD (p.tmod b.length).toNat 0 = A
    generalize hB : b.getD ((p * 7 + 3).tmod b.length).toNat 0 = B'
    have hA' := getD_byte hb (p.tmod b.length).toNat
    have hB' := getD_byte hb ((p * 7 + 3).tmod b.length).toNat
    rw [hA] at hA'
    rw [hB] at hB'
    have hq : 0 ≤ Int.tdiv p b.length ∧ Int.tdiv p b.length ≤ p := ⟨Int.tdiv_nonneg hp (by omega), by
      rw [Int.tdiv_eq_ediv_of_nonneg hp]; exact Int.ediv_le_self _ hp⟩
    generalize Int.tdiv p b.length = Q at hq
    rw [w64 (x := A) (by omega) (by omega), w64 (x := B') (by omega) (by omega), w64 (x := A * 131) (by omega) (by omega), w64 (x := B' * 1117) (by omega) (by omega), w64 (x := p * 29) (by omega) (by omega), w64 (x := Q) (by omega) (by omega), w64 (x := Q * 53) (by omega) (by omega), w64 (x := A * 131 + B' * 1117) (by omega) (by omega), w64 (x := A * 131 + B' * 1117 + p * 29) (by omega) (by omega), w64 (x := A * 131 + B' * 1117 + p * 29 + Q * 53) (by omega) (by omega)]
    generalize hX : A * 131 + B' * 1117 + p * 29 + Q * 53 = X
    have hX1 : 0 ≤ X ∧ X ≤ 100000000000 := by omega
    have hd : 0 ≤ Int.tdiv X 64 ∧ Int.tdiv X 64 ≤ X := ⟨Int.tdiv_nonneg hX1.1 (by omega), by
      rw [Int.tdiv_eq_ediv_of_nonneg hX1.1]; exact Int.ediv_le_self _ hX1.1⟩
    generalize Int.tdiv X 64 = Y at hd
    rw [w64 (x := Y) (by omega) (by omega)]
    exact tmod_range (bxor X Y) n (xor_nonneg X Y (by omega) (by omega) (by omega) (by omega)) hn
theorem num_ev {m : Nat} {b : List Int} {p : Int} (hr : Rd (m + 1) b p) (l : List Int) (hl : 1 ≤ l.length) (hl2 : l.length ≤ 1000) :
    EvP (fun k => spec_l17Rd_num k b p l) (fun r => r.1 ∈ l ∧ Rd m r.2.1 r.2.2) := by
  refine EvP.fn (fun k => spec_l17Rd_num_eq k b p l) (EvP.bind (pick_ev hr (n := l.length) (by omega) (by omega)) fun a ha => ?_)
  exact EvP.yes ha.1 (EvP.yes ha.2.1 (EvP.now ⟨getD_mem _ _ _ (by omega), ha.2.2⟩))
theorem of_ev {m : Nat} {b : List Int} {p : Int} (hr : Rd (m + 1) b p) (l : List (List UInt8)) (hl : 1 ≤ l.length) (hl2 : l.length ≤ 1000) :
    EvP (fun k => spec_l17Rd_of k b p l) (fun r => r.1 ∈ l ∧ Rd m r.2.1 r.2.2) := by
  refine EvP.fn (fun k => spec_l17Rd_of_eq k b p l) (EvP.bind (pick_ev hr (n := l.length) (by omega) (by omega)) fun a ha => ?_)
  exact EvP.yes ha.1 (EvP.yes ha.2.1 (EvP.now ⟨getD_mem _ _ _ (by omega), ha.2.2⟩))
/-! texts -/
def small (c : UInt8) : Bool := decide (97 ≤ c.toNat) && decide (c.toNat ≤ 100)
def textOk (s : List UInt8) : Bool := s.all small && decide (s.length ≤ 8)
theorem l1Small_ev (c : UInt8) : EvP (fun k => spec_l1Small k ((c.toNat : Nat) : Int)) (fun r => r = small c) := by
  refine EvP.fn (fun k => spec_l1Small_eq k _) (EvP.dec (fun h => EvP.now ?_) (fun h => EvP.now ?_))
  · have h1 : 97 ≤ c.toNat := by omega
    have e : decide ((c.toNat : Int) ≤ 100) = decide (c.toNat ≤ 100) := by congr 1; exact propext ⟨fun h => by omega, fun h => by omega⟩
    rw [e]; simp [small, h1]
  · have h1 : ¬ 97 ≤ c.toNat := by omega
    simp [small, h1]
theorem drop_cons {α : Type} (l : List α) (i : Nat) (d : α) (h : i < l.length) : l.drop i = l.getD i d :: l.drop (i + 1) := by
  rw [List.drop_eq_getElem_cons h, List.getD_eq_getElem?_getD, List.getElem?_eq_getElem h]; rfl
theorem specTextOk_loop (s : List UInt8) (hs : s.length < 4611686018427387904) : ∀ (n i : Nat), i + n = s.length → EvP (fun k => spec_TextOk_L26 k s (i : Int)) (fun r => r = ((s.drop i).all small && decide (s.length ≤ 8)))
  | 0, i, h => by
    refine EvP.fn (fun k => spec_TextOk_L26_eq k s _) (EvP.dec (fun h' => absurd h' (by omega)) (fun _ => EvP.now ?_))
    have e : decide ((s.length : Int) ≤ 8) = decide (s.length ≤ 8) := by congr 1; exact propext ⟨fun h => by omega, fun h => by omega⟩
    rw [e, List.drop_eq_nil_of_le (by omega)]; simp
  | n + 1, i, h => by
    refine EvP.fn (fun k => spec_TextOk_L26_eq k s _) (EvP.dec (fun _ => EvP.yes (by omega) (EvP.yes (by omega) ?_)) (fun h' => absurd (show (i : Int) < s.length by omega) h'))
    rw [Int.toNat_natCast]
    refine EvP.bind (l1Small_ev _) fun b hb => ?_
    subst hb
    rw [drop_cons s i 0 (by omega)]
    cases hc : small (s.getD i 0) with
    | false => exact EvP.yes rfl (EvP.now (by rw [List.all_cons, hc]; rfl))
    | true =>
      refine EvP.no (by simp) ?_
      rw [w64 (by omega) (by omega)]
      have := specTextOk_loop s hs n (i + 1) (by omega)
      refine this.mono fun r hr => by rw [hr, List.all_cons, hc, Bool.true_and]
theorem specTextOk_ev (s : List UInt8) (hs : s.length < 4611686018427387904) : EvP (fun k => spec_TextOk k s) (fun r => r = textOk s) := by
  refine EvP.fn (fun k => spec_TextOk_eq k s) ((specTextOk_loop s hs s.length 0 (by omega)).mono fun r hr => by rw [hr]; rfl)
theorem l4Text_loop : ∀ (n m : Nat) {b : List Int} {p : Int} (t : List UInt8) (i N : Int), i + n = N → 0 ≤ i → N ≤ 1000 → Rd (m + n) b p → t.length ≤ i → EvP (fun k => spec_l4Text_L58 k (b, p) N t i) (fun r => r.1.length ≤ N ∧ Rd m r.2.1 r.2.2)
  | 0, m, b, p, t, i, N, h, h0, hN, hr, ht => by
    refine EvP.fn (fun k => spec_l4Text_L58_eq k _ _ _ _) (EvP.decN (by omega) (EvP.now ⟨by show (t.length : Int) ≤ N; omega, hr⟩))
  | n + 1, m, b, p, t, i, N, h, h0, hN, hr, ht => by
    refine EvP.fn (fun k => spec_l4Text_L58_eq k _ _ _ _) (EvP.decY (by omega) ?_)
    refine EvP.bind (of_ev (m := m + n) (hr.less (by omega)) _ (by simp) (by simp)) fun a ha => ?_
    have hl : a.1.length = 1 := by
      have := ha.1
      simp only [List.mem_cons, List.not_mem_nil, or_false] at this
      rcases this with h | h | h | h | h | h <;> rw [h] <;> rfl
    refine EvP.yes (by omega) ?_
    rw [w64 (by omega) (by omega)]
    exact l4Text_loop n m _ (i + 1) N (by omega) (by omega) hN ha.2 (by simp [hl]; omega)
theorem l4Text_ev {m n : Nat} {b : List Int} {p : Int} {N : Int} (h0 : 0 ≤ N) (hN : N ≤ n) (hn : n ≤ 1000) (hr : Rd (m + n) b p) : EvP (fun k => spec_l4Text k b p N) (fun r => r.1.length ≤ N ∧ Rd m r.2.1 r.2.2) := by
  obtain ⟨N', rfl⟩ := Int.eq_ofNat_of_zero_le h0
  exact EvP.fn (fun k => spec_l4Text_eq k _ _ _) (l4Text_loop N' m [] 0 _ (by omega) (by omega) (by omega) (hr.less (by omega)) (by simp))
/-! automata drawn -/
abbrev AutoT := Int × List Bool × List (List Int)
/-- Not large. -/
def Sml (a : AutoT) : Prop := a.2.1.length ≤ 10 ∧ a.2.2.length ≤ 10 ∧ ∀ r ∈ a.2.2, r.length ≤ 10
theorem mE {n : Nat} (h : n ≤ 1000000) : n < maxLenE := by unfold maxLenE; omega
theorem specAutoOf_loop (s : List UInt8) (hs : s.length ≤ 5) (hok : s.all small = true) (x : AutoT) : ∀ (n i : Nat) (y : AutoT), i + n = s.length + 1 → y.2.1.length ≤ i → y.2.2.length ≤ i → (∀ r ∈ y.2.2, r.length ≤ 10) →
    EvP (fun k => spec_AutoOf_L122 k s x y (i : Int)) (fun r => r.2 = true ∧ Sml r.1)
  | 0, i, y, h, h1, h2, h3 => by
    refine EvP.fn (fun k => spec_AutoOf_L122_eq k _ _ _ _) (EvP.decN (by omega) (EvP.now ⟨rfl, ?_, ?_, h3⟩))
    · show y.2.1.length ≤ 10; omega
    · show y.2.2.length ≤ 10; omega
  | n + 1, i, y, h, h1, h2, h3 => by
    have next : ∀ (row : List Int), row.length ≤ 10 → EvP (fun k => spec_AutoOf_L7827 k s (x.fst, x.snd.fst, x.snd.snd) (y.fst, y.snd.fst, y.snd.snd) (i : Int) row) (fun r => r.2 = true ∧ Sml r.1) := fun row hrow => by
      refine EvP.fn (fun k => spec_AutoOf_L7827_eq k _ _ _ _ _) (EvP.yes (mE (by simp; omega)) (EvP.yes (mE (by simp; omega)) ?_))
      rw [w64 (by omega) (by omega)]
      refine specAutoOf_loop s hs hok (x.fst, x.snd.fst, x.snd.snd) n (i + 1) _ (by omega) (by simp; omega) (by simp; omega) (fun r hr => ?_)
      rcases List.mem_append.1 hr with hr | hr
      · exact h3 r hr
      · rw [List.mem_singleton.1 hr]; exact hrow
    refine EvP.fn (fun k => spec_AutoOf_L122_eq k _ _ _ _) (EvP.decY (by omega) (EvP.dec (fun h' => ?_) (fun h' => next _ (by simp))))
    have hc : small (s.getD i 0) = true := List.all_eq_true.1 hok _ (getD_mem s i 0 (by omega))
    simp only [small, Bool.and_eq_true, decide_eq_true_eq] at hc
    refine EvP.yes (by omega) (EvP.yes h' ?_)
    rw [Int.toNat_natCast]
    have e : IntKind.i64.wrap (IntKind.u8.wrap (((s.getD i 0).toNat : Int) - 97)) = ((s.getD i 0).toNat : Int) - 97 := by
      rw [w8 (by omega) (by omega), w64 (by omega) (by omega)]
    rw [e]
    exact EvP.yes (by omega) (EvP.yes (by show ((s.getD i 0).toNat : Int) - 97 < 4; omega) (next _ (by simp)))
theorem specAutoOf_ev (s : List UInt8) (hs : s.length ≤ 1000) : EvP (fun k => spec_AutoOf k s) (fun r => Sml r.1) := by
  refine EvP.fn (fun k => spec_AutoOf_eq k s) (EvP.bind (specTextOk_ev s (by omega)) fun b hb => ?_)
  subst hb
  have z : Sml ((0 : Int), ([] : List Bool), ([] : List (List Int))) := ⟨by simp, by simp, fun r hr => by simp at hr⟩
  cases h : textOk s with
  | false => exact EvP.no (by simp) (EvP.now z)
  | true =>
    refine EvP.yes rfl (EvP.dec (fun _ => EvP.now z) (fun h' => ?_))
    simp only [textOk, Bool.and_eq_true] at h
    exact (specAutoOf_loop s (by omega) h.1 _ (s.length + 1) 0 _ (by omega) (by simp) (by simp) (fun r hr => by simp at hr)).mono fun r hr => hr.2
/-- Rows of four. -/
def Fours (a : AutoT) : Prop := a.2.1.length ≤ 6 ∧ 1 ≤ a.2.2.length ∧ a.2.2.length ≤ 6 ∧ ∀ r ∈ a.2.2, r.length = 4
theorem l13Auto_loops (x : AutoT) (N : Int) (hN1 : 1 ≤ N) (hN : N ≤ 6) : ∀ (n m : Nat) {b : List Int} {p : Int} (y : AutoT) (i : Int), i + n = N → 0 ≤ i → y.2.1.length = i → y.2.2.length = i → (∀ r ∈ y.2.2, r.length = 4) → Rd (m + 5 * n) b p →
    EvP (fun k => spec_l13Auto_L122 k (b, p) x N y i) (fun r => Fours r.1 ∧ Rd m r.2.1 r.2.2)
  | 0, m, b, p, y, i, h, h0, h1, h2, h3, hr => by
    refine EvP.fn (fun k => spec_l13Auto_L122_eq k _ _ _ _ _) (EvP.decN (by omega) (EvP.now ⟨⟨?_, ?_, ?_, h3⟩, hr⟩))
    · show y.2.1.length ≤ 6; omega
    · show 1 ≤ y.2.2.length; omega
    · show y.2.2.length ≤ 6; omega
  | n + 1, m, b, p, y, i, h, h0, h1, h2, h3, hr => by
    have inner : ∀ (q : Nat) {b : List Int} {p : Int} (y : AutoT) (row : List Int) (j : Int), j + q = 4 → 0 ≤ j → row.length = j → y.2.1.length = i + 1 → y.2.2.length = i → (∀ r ∈ y.2.2, r.length = 4) → Rd (m + 5 * n + q) b p → ∀ x : AutoT,
        EvP (fun k => spec_l13Auto_L62618 k (b, p) x N y i row j) (fun r => Fours r.1 ∧ Rd m r.2.1 r.2.2) := by
      intro q
      induction q with
      | zero =>
        intro b p y row j hj hj0 hrow g1 g2 g3 hr x
        refine EvP.fn (fun k => spec_l13Auto_L62618_eq k _ _ _ _ _ _ _) (EvP.decN (by omega) (EvP.yes (mE (by simp; omega)) ?_))
        rw [w64 (by omega) (by omega)]
        refine l13Auto_loops _ N hN1 hN n m _ (i + 1) (by omega) (by omega) g1 (by simp; omega) (fun r hr => ?_) hr
        rcases List.mem_append.1 hr with hr | hr
        · exact g3 r hr
        · rw [List.mem_singleton.1 hr]; omega
      | succ q ih =>
        intro b p y row j hj hj0 hrow g1 g2 g3 hr x
        refine EvP.fn (fun k => spec_l13Auto_L62618_eq k _ _ _ _ _ _ _) (EvP.decY (by omega) ?_)
        rw [w64 (x := N + 1) (by omega) (by omega)]
        refine EvP.bind (pick_ev (m := m + 5 * n + q) (hr.less (by omega)) (by omega) (by omega)) fun a ha => ?_
        refine EvP.yes (mE (by simp; omega)) ?_
        rw [w64 (x := j + 1) (by omega) (by omega)]
        exact ih _ _ (j + 1) (by omega) (by omega) (by simp; omega) g1 g2 g3 ha.2.2 _
    refine EvP.fn (fun k => spec_l13Auto_L122_eq k _ _ _ _ _) (EvP.decY (by omega) ?_)
    refine EvP.bind (pick_ev (m := m + 5 * n + 4) (hr.less (by omega)) (by omega) (by omega)) fun a ha => ?_
    exact EvP.yes (mE (by simp; omega)) (inner 4 (y.1, y.2.1 ++ [decide (a.1 = 0)], y.2.2) [] 0 (by omega) (by omega) rfl (by simp; omega) h2 h3 ha.2.2 _)
theorem l13Auto_ev {m : Nat} {b : List Int} {p : Int} (hr : Rd (m + 32) b p) : EvP (fun k => spec_l13Auto k b p) (fun r => Fours r.1 ∧ Rd m r.2.1 r.2.2) := by
  refine EvP.fn (fun k => spec_l13Auto_eq k _ _) (EvP.bind (num_ev (m := m + 31) hr _ (by simp) (by simp)) fun a ha => ?_)
  have hN : 1 ≤ a.1 ∧ a.1 ≤ 6 := by
    have := ha.1
    simp only [List.mem_cons, List.not_mem_nil, or_false] at this
    omega
  refine EvP.bind (pick_ev (m := m + 30) ha.2 hN.1 (by omega)) fun c hc => ?_
  obtain ⟨N', hN'⟩ := Int.eq_ofNat_of_zero_le (show 0 ≤ a.1 by omega)
  exact l13Auto_loops _ a.1 hN.1 hN.2 N' m _ 0 (by omega) (by omega) (by simp) (by simp) (fun r hr => by simp at hr) (hc.2.2.less (by omega))
theorem copy_loop (x y : AutoT) (hx : Sml x) : ∀ (n i : Nat) (z : AutoT), i + n = x.2.2.length → z.2.2 = x.2.2.take i → EvP (fun k => spec_l13Copy_L58 k x y z (i : Int)) (fun r => r = (z.1, z.2.1, x.2.2))
  | 0, i, z, h, hz => by
    refine EvP.fn (fun k => spec_l13Copy_L58_eq k _ _ _ _) (EvP.decN (by omega) (EvP.now ?_))
    rw [hz, List.take_of_length_le (by omega)]
  | n + 1, i, z, h, hz => by
    have hx2 := hx.2.1
    have hr : (x.2.2.getD i []).length ≤ 10 := hx.2.2 _ (getD_mem _ _ _ (by omega))
    refine EvP.fn (fun k => spec_l13Copy_L58_eq k _ _ _ _) (EvP.decY (by omega) (EvP.yes (by omega) (EvP.yes (by omega) ?_)))
    rw [Int.toNat_natCast]
    refine EvP.yes (mE (by omega)) (EvP.yes (mE (by rw [hz]; simp; omega)) ?_)
    rw [w64 (by omega) (by omega)]
    refine (copy_loop (x.fst, x.snd.fst, x.snd.snd) _ hx n (i + 1) _ (by show i + 1 + n = x.2.2.length; omega) ?_).mono fun r hr => hr
    show z.2.2 ++ [x.2.2.getD i []] = x.2.2.take (i + 1)
    rw [hz, List.take_add_one, List.getD_eq_getElem?_getD, List.getElem?_eq_getElem (by omega)]
    rfl
theorem copy_ev (a : AutoT) (ha : Sml a) : EvP (fun k => spec_l13Copy k a.1 a.2.1 a.2.2) (fun r => r = a) := by
  refine EvP.fn (fun k => spec_l13Copy_eq k _ _ _) (EvP.yes (mE (by have := ha.1; omega)) ?_)
  exact (copy_loop (a.1, a.2.1, a.2.2) _ ha a.2.2.length 0 _ (by show 0 + a.2.2.length = a.2.2.length; omega) rfl).mono fun r hr => hr
theorem Fours.sml {a : AutoT} (h : Fours a) : Sml a := ⟨by have := h.1; omega, by have := h.2.2.1; omega, fun r hr => by rw [h.2.2.2 r hr]; omega⟩
theorem set_mem {α : Type} {l : List α} {i : Nat} {x y : α} (h : y ∈ l.set i x) : y = x ∨ y ∈ l := by
  rcases List.mem_or_eq_of_mem_set h with h | h
  · exact .inr h
  · exact .inl h
theorem bent_ev {m : Nat} {b : List Int} {p : Int} (hr : Rd (m + 3) b p) (a : AutoT) (ha : Fours a) : EvP (fun k => spec_l13Bent k b p a.1 a.2.1 a.2.2) (fun r => Sml r.1 ∧ Rd m r.2.1 r.2.2) := by
  have hs := ha.sml
  obtain ⟨h1, h2, h3, h4⟩ := ha
  refine EvP.fn (fun k => spec_l13Bent_eq k _ _ _ _ _) (EvP.bind (copy_ev a hs) fun x hx => ?_)
  subst hx
  have h0 : (x.2.2.getD 0 []).length = 4 := h4 _ (getD_mem _ _ _ (by omega))
  refine EvP.bind (pick_ev (m := m + 2) hr (by omega) (by omega)) fun c hc => ?_
  refine EvP.dec (fun _ => ?_) (fun _ => EvP.dec (fun _ => ?_) (fun _ => EvP.dec (fun _ => ?_) (fun _ => EvP.dec (fun _ => ?_) (fun _ => EvP.dec (fun _ => ?_) (fun _ => ?_)))))
  · exact EvP.bind (num_ev (m := m + 1) hc.2.2 _ (by simp) (by simp)) fun d hd => EvP.now ⟨hs, hd.2.less (by omega)⟩
  · refine EvP.yes (mE (by simp; omega)) (EvP.now ⟨⟨?_, hs.2⟩, hc.2.2.less (by omega)⟩)
    show (x.2.1 ++ [true]).length ≤ 10
    simp; omega
  · simp only [Int.toNat_zero]
    refine EvP.yes (by omega) (EvP.yes (by omega) (EvP.yes (by omega) (EvP.yes (by omega) (EvP.yes (by omega) (EvP.yes (by omega) (EvP.yes (by omega) (EvP.now ⟨⟨hs.1, ?_, ?_⟩, hc.2.2.less (by omega)⟩)))))))
    · show (x.2.2.set 0 _).length ≤ 10
      rw [List.length_set]; omega
    · intro r hr
      rcases set_mem hr with rfl | hr
      · rw [List.length_drop, List.length_take]; omega
      · exact hs.2.2 r hr
  · simp only [Int.toNat_zero]
    refine EvP.yes (by omega) (EvP.yes (by omega) (EvP.bind (pick_ev (m := m + 1) hc.2.2 (by omega) (by omega)) fun d hd => EvP.bind (num_ev (m := m) hd.2.2 _ (by simp) (by simp)) fun e he => ?_))
    refine EvP.yes hd.1 (EvP.yes (by omega) (EvP.now ⟨⟨hs.1, ?_, ?_⟩, he.2⟩))
    · show (x.2.2.set 0 _).length ≤ 10
      rw [List.length_set]; omega
    · intro r hr
      rcases set_mem hr with rfl | hr
      · rw [List.length_set]; omega
      · exact hs.2.2 r hr
  · refine EvP.yes (by omega) (EvP.yes (by omega) (EvP.yes (by omega) (EvP.now ⟨⟨hs.1, ?_, ?_⟩, hc.2.2.less (by omega)⟩)))
    · show (List.drop _ (List.take _ x.2.2)).length ≤ 10
      simp; omega
    · intro r hr
      exact hs.2.2 r (List.mem_of_mem_take (List.mem_of_mem_drop hr))
  · exact EvP.now ⟨hs, hc.2.2.less (by omega)⟩
theorem some_ev {m : Nat} {b : List Int} {p : Int} (hr : Rd (m + 50) b p) : EvP (fun k => spec_l13Some k b p) (fun r => Sml r.1 ∧ Rd m r.2.1 r.2.2) := by
  have tail : ∀ {b : List Int} {p : Int}, Rd (m + 35) b p → EvP (fun k => (spec_l13Auto k b p).bind fun x => (spec_l13Bent k x.snd.fst x.snd.snd x.fst.fst x.fst.snd.fst x.fst.snd.snd).bind fun x => some ((x.fst.fst, x.fst.snd.fst, x.fst.snd.snd), x.snd.fst, x.snd.snd)) (fun r => Sml r.1 ∧ Rd m r.2.1 r.2.2) := fun hr =>
    EvP.bind (l13Auto_ev (m := m + 3) hr) fun a ha => EvP.bind (bent_ev (m := m) ha.2 a.1 ha.1) fun c hc => EvP.now hc
  refine EvP.fn (fun k => spec_l13Some_eq k _ _) (EvP.bind (pick_ev (m := m + 49) hr (by omega) (by omega)) fun a ha => EvP.dec (fun _ => ?_) (fun _ => tail (ha.2.2.less (by omega))))
  refine EvP.bind (pick_ev (m := m + 48) ha.2.2 (by omega) (by omega)) fun c hc => EvP.bind (l4Text_ev (m := m + 40) (n := 6) hc.1 (by omega) (by omega) (hc.2.2.less (by omega))) fun d hd => EvP.bind (specAutoOf_ev d.1 (by omega)) fun e he => ?_
  exact EvP.ite (fun _ => EvP.now ⟨he, hd.2.less (by omega)⟩) (fun _ => tail (hd.2.less (by omega)))
/-! valid automata -/
def goalB (n : Nat) (x : Int) : Bool := decide (-1 ≤ x) && decide (x < n)
def rowOk (n : Nat) (row : List Int) : Bool := decide (row.length = 4) && row.all (goalB n)
def autoOk (a : AutoT) : Bool := decide (1 ≤ a.2.1.length) && decide (a.2.1.length ≤ 6) && decide (a.2.2.length = a.2.1.length) && decide (0 ≤ a.1) && decide (a.1 < a.2.1.length) && a.2.2.all (rowOk a.2.1.length)
theorem goal_ev (a : AutoT) (x : Int) : EvP (fun k => impl_Auto_isGoal k a.1 a.2.1 a.2.2 x) (fun r => r = goalB a.2.1.length x) := by
  refine EvP.fn (fun k => impl_Auto_isGoal_eq k _ _ _ _) (EvP.dec (fun h => EvP.now (by simp [goalB, h])) (fun h => EvP.now (by simp [goalB, h])))
theorem badGoal_ev (a : AutoT) (x : Int) : EvP (fun k => impl_AutoOk_1_1 k x a.1 a.2.1 a.2.2) (fun r => r = !goalB a.2.1.length x) := by
  refine EvP.fn (fun k => impl_AutoOk_1_1_eq k _ _ _ _) (EvP.bind (goal_ev a x) fun b hb => EvP.now ?_)
  rw [hb]; cases goalB a.2.1.length x <;> rfl
theorem badRow_loop (a : AutoT) (row : List Int) (hr : row.length ≤ 1000) : ∀ (n i : Nat), i + n = row.length → EvP (fun k => slices_IndexFunc_Sint_int_L26 k row a.1 a.2.1 a.2.2 (row.length : Int) (i : Int)) (fun r => decide (0 ≤ r) = !(row.drop i).all (goalB a.2.1.length))
  | 0, i, h => by
    refine EvP.fn (fun k => slices_IndexFunc_Sint_int_L26_eq k _ _ _ _ _ _) (EvP.decN (by omega) (EvP.now ?_))
    rw [List.drop_eq_nil_of_le (by omega)]; rfl
  | n + 1, i, h => by
    refine EvP.fn (fun k => slices_IndexFunc_Sint_int_L26_eq k _ _ _ _ _ _) (EvP.decY (by omega) (EvP.yes (by omega) (EvP.yes (by omega) ?_)))
    rw [Int.toNat_natCast, drop_cons row i 0 (by omega)]
    refine EvP.bind (badGoal_ev a _) fun b hb => ?_
    subst hb
    cases hc : goalB a.2.1.length (row.getD i 0) with
    | false => exact EvP.yes rfl (EvP.now (by rw [List.all_cons, hc]; simp))
    | true =>
      refine EvP.no (by simp) ?_
      rw [w64 (by omega) (by omega)]
      exact (badRow_loop a row hr n (i + 1) (by omega)).mono fun r hr => by rw [hr, List.all_cons, hc, Bool.true_and]
theorem badRow_ev (a : AutoT) (row : List Int) (hr : row.length ≤ 1000) : EvP (fun k => impl_AutoOk_1 k row a.1 a.2.1 a.2.2) (fun r => r = !rowOk a.2.1.length row) := by
  refine EvP.fn (fun k => impl_AutoOk_1_eq k _ _ _ _) (EvP.notF (fun h => ?_) (fun h => EvP.now ?_))
  · have h : row.length = 4 := by omega
    refine EvP.bind (P := fun r => r = !row.all (goalB a.2.1.length)) (EvP.fn (fun k => slices_ContainsFunc_Sint_int_eq k _ _ _ _) (EvP.bind (EvP.fn (fun k => slices_IndexFunc_Sint_int_eq k _ _ _ _) (badRow_loop a row hr row.length 0 (by omega))) fun b hb => EvP.now hb)) fun b hb => EvP.now ?_
    rw [hb]; simp [rowOk, h]
  · have h : ¬ row.length = 4 := by omega
    simp [rowOk, h]
theorem badRows_loop (a : AutoT) (ha : a.2.2.length ≤ 1000) (hr : ∀ r ∈ a.2.2, r.length ≤ 1000) : ∀ (n i : Nat), i + n = a.2.2.length → EvP (fun k => slices_IndexFunc_SSint_Sint_L26 k a.2.2 a.1 a.2.1 a.2.2 (a.2.2.length : Int) (i : Int)) (fun r => decide (0 ≤ r) = !(a.2.2.drop i).all (rowOk a.2.1.length))
  | 0, i, h => by
    refine EvP.fn (fun k => slices_IndexFunc_SSint_Sint_L26_eq k _ _ _ _ _ _) (EvP.decN (by omega) (EvP.now ?_))
    rw [List.drop_eq_nil_of_le (by omega)]; rfl
  | n + 1, i, h => by
    refine EvP.fn (fun k => slices_IndexFunc_SSint_Sint_L26_eq k _ _ _ _ _ _) (EvP.decY (by omega) (EvP.yes (by omega) (EvP.yes (by omega) ?_)))
    rw [Int.toNat_natCast, drop_cons a.2.2 i [] (by omega)]
    refine EvP.bind (badRow_ev a _ (hr _ (getD_mem _ _ _ (by omega)))) fun b hb => ?_
    subst hb
    cases hc : rowOk a.2.1.length (a.2.2.getD i []) with
    | false => exact EvP.yes rfl (EvP.now (by rw [List.all_cons, hc]; simp))
    | true =>
      refine EvP.no (by simp) ?_
      rw [w64 (by omega) (by omega)]
      exact (badRows_loop a ha hr n (i + 1) (by omega)).mono fun r hr => by rw [hr, List.all_cons, hc, Bool.true_and]
/-- Short enough to be told. -/
def Mid (a : AutoT) : Prop := a.2.1.length ≤ 1000 ∧ a.2.2.length ≤ 1000 ∧ ∀ r ∈ a.2.2, r.length ≤ 1000
theorem Sml.mid {a : AutoT} (h : Sml a) : Mid a := ⟨by have := h.1; omega, by have := h.2.1; omega, fun r hr => by have := h.2.2 r hr; omega⟩
theorem implAutoOk_ev (a : AutoT) (ha : Mid a) : EvP (fun k => impl_AutoOk k a.1 a.2.1 a.2.2) (fun r => r = autoOk a) := by
  refine EvP.fn (fun k => impl_AutoOk_eq k _ _ _) (EvP.decF (fun h1 => EvP.decF (fun h2 => EvP.notF (fun h3 => EvP.decF (fun h4 => EvP.dec (fun h5 => EvP.now ?_) (fun h5 => ?_)) (fun h => EvP.now ?_)) (fun h => EvP.now ?_)) (fun h => EvP.now ?_)) (fun h => EvP.now ?_))
  · have : ¬ a.1 < a.2.1.length := by omega
    simp [autoOk, this]
  · refine EvP.bind (P := fun r => r = !a.2.2.all (rowOk a.2.1.length)) (EvP.fn (fun k => slices_ContainsFunc_SSint_Sint_eq k _ _ _ _) (EvP.bind (EvP.fn (fun k => slices_IndexFunc_SSint_Sint_eq k _ _ _ _) (badRows_loop a ha.2.1 ha.2.2 a.2.2.length 0 (by omega))) fun b hb => EvP.now hb)) fun b hb => EvP.now ?_
    have e1 : 1 ≤ a.2.1.length := by omega
    have e2 : a.2.1.length ≤ 6 := by omega
    have e3 : a.2.2.length = a.2.1.length := by omega
    have e4 : 0 ≤ a.1 := by omega
    have e5 : a.1 < a.2.1.length := by omega
    rw [hb]; simp only [autoOk, e1, e2, e3, e4, e5, decide_true, Bool.true_and]
    cases a.2.2.all (rowOk a.2.1.length) <;> rfl
  · have : ¬ 0 ≤ a.1 := by omega
    simp [autoOk, this]
  · have : ¬ a.2.2.length = a.2.1.length := by omega
    simp [autoOk, this]
  · have : ¬ a.2.1.length ≤ 6 := by omega
    simp [autoOk, this]
  · have : ¬ 1 ≤ a.2.1.length := by omega
    simp [autoOk, this]
theorem specAutoOk_loops (a : AutoT) (hn : a.2.1.length ≤ 6) (hl : a.2.2.length = a.2.1.length) : ∀ (n i : Nat), i + n = a.2.2.length → EvP (fun k => spec_AutoOk_L122 k a (a.2.1.length : Int) (i : Int)) (fun r => r = (a.2.2.drop i).all (rowOk a.2.1.length))
  | 0, i, h => by
    refine EvP.fn (fun k => spec_AutoOk_L122_eq k _ _ _) (EvP.decN (by omega) (EvP.now ?_))
    rw [List.drop_eq_nil_of_le (by omega)]; rfl
  | n + 1, i, h => by
    refine EvP.fn (fun k => spec_AutoOk_L122_eq k _ _ _) (EvP.decY (by omega) (EvP.yes (by omega) (EvP.yes (by omega) ?_)))
    rw [Int.toNat_natCast, drop_cons a.2.2 i [] (by omega)]
    generalize hrow : a.2.2.getD i [] = row
    refine EvP.notT (fun h4 => EvP.now ?_) (fun h4 => ?_)
    · have : ¬ row.length = 4 := by omega
      rw [List.all_cons]; simp [rowOk, this]
    · have h4 : row.length = 4 := by omega
      have inner : ∀ (q j : Nat), j + q = 4 → EvP (fun k => spec_AutoOk_L15654 k (a.fst, a.snd.fst, a.snd.snd) (a.2.1.length : Int) (i : Int) (j : Int)) (fun r => r = ((row.drop j).all (goalB a.2.1.length) && (a.2.2.drop (i + 1)).all (rowOk a.2.1.length))) := by
        intro q
        induction q with
        | zero =>
          intro j hj
          refine EvP.fn (fun k => spec_AutoOk_L15654_eq k _ _ _ _) (EvP.decN (by omega) ?_)
          rw [w64 (by omega) (by omega), List.drop_eq_nil_of_le (by omega)]
          exact (specAutoOk_loops a hn hl n (i + 1) (by omega)).mono fun r hr => by rw [hr]; rfl
        | succ q ih =>
          intro j hj
          refine EvP.fn (fun k => spec_AutoOk_L15654_eq k _ _ _ _) (EvP.decY (by omega) (EvP.yes (by omega) (EvP.yes (by show (i : Int) < (a.2.2.length : Int); omega) (EvP.yes (by omega) ?_))))
          simp only [Int.toNat_natCast, hrow]
          rw [drop_cons row j 0 (by omega)]
          refine EvP.yes (by omega) (EvP.decF (fun h1 => EvP.yes (by omega) (EvP.yes (by omega) (EvP.yes (by omega) (EvP.yes (by omega) (EvP.dec (fun h2 => EvP.now ?_) (fun h2 => ?_)))))) (fun h1 => EvP.now ?_))
          · have : ¬ row.getD j 0 < a.2.1.length := by omega
            rw [List.all_cons, goalB]; simp [-List.getD_eq_getElem?_getD, this]
          · have e1 : -1 ≤ row.getD j 0 := by omega
            have e2 : row.getD j 0 < a.2.1.length := by omega
            rw [w64 (by omega) (by omega)]
            refine (ih (j + 1) (by omega)).mono fun r hr => ?_
            rw [hr, List.all_cons]
            have : goalB a.2.1.length (row.getD j 0) = true := by simp only [goalB, e1, e2, decide_true, Bool.and_self]
            rw [this, Bool.true_and]
          · have : ¬ -1 ≤ row.getD j 0 := by omega
            rw [List.all_cons, goalB]; simp [-List.getD_eq_getElem?_getD, this]
      refine (inner 4 0 (by omega)).mono fun r hr => ?_
      rw [hr, List.all_cons, rowOk, h4]; simp
theorem specAutoOk_ev (a : AutoT) : EvP (fun k => spec_AutoOk k a.1 a.2.1 a.2.2) (fun r => r = autoOk a) := by
  refine EvP.fn (fun k => spec_AutoOk_eq k _ _ _) (EvP.decF (fun h1 => EvP.decF (fun h2 => EvP.notF (fun h3 => EvP.decF (fun h4 => EvP.dec (fun h5 => EvP.now ?_) (fun h5 => ?_)) (fun h => EvP.now ?_)) (fun h => EvP.now ?_)) (fun h => EvP.now ?_)) (fun h => EvP.now ?_))
  · have : ¬ a.1 < a.2.1.length := by omega
    simp [autoOk, this]
  · refine (specAutoOk_loops a (by omega) (by omega) a.2.2.length 0 (by omega)).mono fun r hr => ?_
    have e1 : 1 ≤ a.2.1.length := by omega
    have e2 : a.2.1.length ≤ 6 := by omega
    have e3 : a.2.2.length = a.2.1.length := by omega
    have e4 : 0 ≤ a.1 := by omega
    have e5 : a.1 < a.2.1.length := by omega
    rw [hr]; simp only [autoOk, e1, e2, e3, e4, e5, decide_true, Bool.true_and, List.drop_zero]
  · have : ¬ 0 ≤ a.1 := by omega
    simp [autoOk, this]
  · have : ¬ a.2.2.length = a.2.1.length := by omega
    simp [autoOk, this]
  · have : ¬ a.2.1.length ≤ 6 := by omega
    simp [autoOk, this]
  · have : ¬ 1 ≤ a.2.1.length := by omega
    simp [autoOk, this]
/-! the same -/
theorem drop_eq_iff {α : Type} (l m : List α) (i : Nat) (d : α) (hl : i < l.length) (hm : i < m.length) : (l.drop i = m.drop i) ↔ (l.getD i d = m.getD i d ∧ l.drop (i + 1) = m.drop (i + 1)) := by
  rw [drop_cons l i d hl, drop_cons m i d hm]
  exact ⟨fun h => by simpa only [List.cons.injEq] using h, fun h => by rw [h.1, h.2]⟩
theorem eqBools_loop (l m : List Bool) (hl : l.length ≤ 1000) (hm : m.length = l.length) : ∀ (n i : Nat), i + n = l.length → EvP (fun k => slices_Equal_Sbool_bool_L58 k l m (l.length : Int) (i : Int)) (fun r => r = decide (l.drop i = m.drop i))
  | 0, i, h => by
    refine EvP.fn (fun k => slices_Equal_Sbool_bool_L58_eq k _ _ _ _) (EvP.decN (by omega) (EvP.now ?_))
    rw [List.drop_eq_nil_of_le (by omega), List.drop_eq_nil_of_le (by omega)]; simp
  | n + 1, i, h => by
    refine EvP.fn (fun k => slices_Equal_Sbool_bool_L58_eq k _ _ _ _) (EvP.decY (by omega) (EvP.yes (by omega) (EvP.yes (by omega) (EvP.yes (by omega) (EvP.yes (by omega) ?_)))))
    rw [Int.toNat_natCast]
    have key := drop_eq_iff l m i false (by omega) (by omega)
    refine EvP.notT (fun hne => EvP.now ?_) (fun he => ?_)
    · symm; rw [decide_eq_false_iff_not, key]; exact fun h => hne h.1
    · rw [w64 (by omega) (by omega)]
      refine (eqBools_loop l m hl hm n (i + 1) (by omega)).mono fun r hr => ?_
      rw [hr]; congr 1; rw [key]; simp [-List.getD_eq_getElem?_getD, he]
theorem eqBools_ev (l m : List Bool) (hl : l.length ≤ 1000) : EvP (fun k => slices_Equal_Sbool_bool k l m) (fun r => r = decide (l = m)) := by
  refine EvP.fn (fun k => slices_Equal_Sbool_bool_eq k _ _) (EvP.notT (fun h => EvP.now ?_) (fun h => ?_))
  · symm; rw [decide_eq_false_iff_not]; intro e; exact h (by rw [e])
  · exact (eqBools_loop l m hl (by omega) l.length 0 (by omega)).mono fun r hr => hr
theorem eqInts_loop (l m : List Int) (hl : l.length ≤ 1000) (hm : m.length = l.length) : ∀ (n i : Nat), i + n = l.length → EvP (fun k => slices_Equal_Sint_int_L58 k l m (l.length : Int) (i : Int)) (fun r => r = decide (l.drop i = m.drop i))
  | 0, i, h => by
    refine EvP.fn (fun k => slices_Equal_Sint_int_L58_eq k _ _ _ _) (EvP.decN (by omega) (EvP.now ?_))
    rw [List.drop_eq_nil_of_le (by omega), List.drop_eq_nil_of_le (by omega)]; simp
  | n + 1, i, h => by
    refine EvP.fn (fun k => slices_Equal_Sint_int_L58_eq k _ _ _ _) (EvP.decY (by omega) (EvP.yes (by omega) (EvP.yes (by omega) (EvP.yes (by omega) (EvP.yes (by omega) ?_)))))
    rw [Int.toNat_natCast]
    have key := drop_eq_iff l m i 0 (by omega) (by omega)
    refine EvP.notT (fun hne => EvP.now ?_) (fun he => ?_)
    · symm; rw [decide_eq_false_iff_not, key]; exact fun h => hne h.1
    · rw [w64 (by omega) (by omega)]
      refine (eqInts_loop l m hl hm n (i + 1) (by omega)).mono fun r hr => ?_
      rw [hr]; congr 1; rw [key]; simp [-List.getD_eq_getElem?_getD, he]
theorem eqInts_ev (l m : List Int) (hl : l.length ≤ 1000) : EvP (fun k => slices_Equal_Sint_int k l m) (fun r => r = decide (l = m)) := by
  refine EvP.fn (fun k => slices_Equal_Sint_int_eq k _ _) (EvP.notT (fun h => EvP.now ?_) (fun h => ?_))
  · symm; rw [decide_eq_false_iff_not]; intro e; exact h (by rw [e])
  · exact (eqInts_loop l m hl (by omega) l.length 0 (by omega)).mono fun r hr => hr
theorem eqRows_loop (l m : List (List Int)) (hl : l.length ≤ 1000) (hm : m.length = l.length) (hr : ∀ r ∈ l, r.length ≤ 1000) : ∀ (n i : Nat), i + n = l.length → EvP (fun k => slices_EqualFunc_SSint_SSint_Sint_Sint_L58 k m l (l.length : Int) (i : Int)) (fun r => r = decide (l.drop i = m.drop i))
  | 0, i, h => by
    refine EvP.fn (fun k => slices_EqualFunc_SSint_SSint_Sint_Sint_L58_eq k _ _ _ _) (EvP.decN (by omega) (EvP.now ?_))
    rw [List.drop_eq_nil_of_le (by omega), List.drop_eq_nil_of_le (by omega)]; simp
  | n + 1, i, h => by
    refine EvP.fn (fun k => slices_EqualFunc_SSint_SSint_Sint_Sint_L58_eq k _ _ _ _) (EvP.decY (by omega) (EvP.yes (by omega) (EvP.yes (by omega) (EvP.yes (by omega) (EvP.yes (by omega) ?_)))))
    rw [Int.toNat_natCast]
    have key := drop_eq_iff l m i [] (by omega) (by omega)
    refine EvP.bind (eqInts_ev (l.getD i []) (m.getD i []) (hr _ (getD_mem _ _ _ (by omega)))) fun r hr' => ?_
    subst hr'
    by_cases he : l.getD i [] = m.getD i []
    · refine EvP.no (by rw [decide_eq_true he]; simp) ?_
      rw [w64 (by omega) (by omega)]
      refine (eqRows_loop l m hl hm hr n (i + 1) (by omega)).mono fun r hr => ?_
      rw [hr]; congr 1; rw [key]; simp [-List.getD_eq_getElem?_getD, he]
    · refine EvP.yes (by rw [decide_eq_false he]; rfl) (EvP.now ?_)
      symm; rw [decide_eq_false_iff_not, key]; exact fun h => he h.1
theorem implSame_ev (a b : AutoT) (ha : Mid a) : EvP (fun k => impl_AutoSame k a.1 a.2.1 a.2.2 b.1 b.2.1 b.2.2) (fun r => r = decide (a = b)) := by
  have ext : (a = b) ↔ (a.1 = b.1 ∧ a.2.1 = b.2.1 ∧ a.2.2 = b.2.2) := ⟨fun h => by rw [h]; exact ⟨rfl, rfl, rfl⟩, fun h => Prod.ext h.1 (Prod.ext h.2.1 h.2.2)⟩
  refine EvP.fn (fun k => impl_AutoSame_eq k _ _ _ _ _ _) (EvP.dec (fun h1 => EvP.bind (eqBools_ev _ _ ha.1) fun r hr => ?_) (fun h1 => EvP.now ?_))
  · subst hr
    by_cases h2 : a.2.1 = b.2.1
    · refine EvP.yes (decide_eq_true h2) (EvP.bind (P := fun r => r = decide (a.2.2 = b.2.2)) ?_ fun r hr => EvP.now ?_)
      · refine EvP.fn (fun k => slices_EqualFunc_SSint_SSint_Sint_Sint_eq k _ _) (EvP.notT (fun h => EvP.now ?_) (fun h => ?_))
        · symm; rw [decide_eq_false_iff_not]; intro e; exact h (by rw [e])
        · exact (eqRows_loop a.2.2 b.2.2 ha.2.1 (by omega) ha.2.2 a.2.2.length 0 (by omega)).mono fun r hr => hr
      · rw [hr]; congr 1; rw [ext]; simp [h1, h2]
    · refine EvP.no (by rw [decide_eq_false h2]; simp) (EvP.now ?_)
      symm; rw [decide_eq_false_iff_not, ext]; exact fun h => h2 h.2.1
  · symm; rw [decide_eq_false_iff_not, ext]; exact fun h => h1 h.1
theorem take_step (u v : List Int) (j : Nat) (hu : j < u.length) (hv : j < v.length) (ht : u.take j = v.take j) (hd : u.getD j 0 = v.getD j 0) : u.take (j + 1) = v.take (j + 1) := by
  rw [List.getD_eq_getElem?_getD, List.getD_eq_getElem?_getD, List.getElem?_eq_getElem hu, List.getElem?_eq_getElem hv] at hd
  rw [List.take_add_one, List.take_add_one, ht, List.getElem?_eq_getElem hu, List.getElem?_eq_getElem hv]
  simp only [Option.getD_some] at hd
  rw [hd]
theorem specSame_row (a b : AutoT) (ha : Mid a) (hl : b.2.2.length = a.2.2.length) (Q : Bool → Prop) (i : Nat) (hi : i < a.2.2.length) (hlen : (b.2.2.getD i []).length = (a.2.2.getD i []).length)
    (hne : a.2.2.getD i [] ≠ b.2.2.getD i [] → Q false) (he : a.2.2.getD i [] = b.2.2.getD i [] → EvP (fun k => spec_AutoSame_L122 k a b ((i + 1 : Nat) : Int)) Q) : ∀ (n j : Nat), j + n = (a.2.2.getD i []).length → (a.2.2.getD i []).take j = (b.2.2.getD i []).take j → EvP (fun k => spec_AutoSame_L15654 k a b (i : Int) (j : Int)) Q
  | 0, j, h, ht => by
    have hm := ha.2.1
    refine EvP.fn (fun k => spec_AutoSame_L15654_eq k _ _ _ _) (EvP.yes (by omega) (EvP.yes (by omega) ?_))
    simp only [Int.toNat_natCast]
    refine EvP.decN (by omega) ?_
    rw [w64 (by omega) (by omega)]
    rw [List.take_of_length_le (by omega), List.take_of_length_le (by omega)] at ht
    exact he ht
  | n + 1, j, h, ht => by
    have hm := ha.2.1
    have hr := ha.2.2 _ (getD_mem a.2.2 i [] hi)
    refine EvP.fn (fun k => spec_AutoSame_L15654_eq k _ _ _ _) (EvP.yes (by omega) (EvP.yes (by omega) ?_))
    simp only [Int.toNat_natCast]
    refine EvP.decY (by omega) (EvP.yes (by omega) (EvP.yes (by omega) (EvP.yes (by omega) (EvP.yes (by omega) (EvP.yes (by omega) (EvP.yes (by omega) (EvP.yes (by omega) (EvP.yes (by omega) ?_))))))))
    refine EvP.notT (fun hd => EvP.now (hne (fun e => hd (by rw [e])))) (fun hd => ?_)
    rw [w64 (by omega) (by omega)]
    refine specSame_row a b ha hl Q i hi hlen hne he n (j + 1) (by omega) ?_
    exact take_step _ _ j (by omega) (by omega) ht hd
theorem specSame_rows (a b : AutoT) (ha : Mid a) (hl : b.2.2.length = a.2.2.length) : ∀ (n i : Nat), i + n = a.2.2.length → EvP (fun k => spec_AutoSame_L122 k a b (i : Int)) (fun r => r = decide (a.2.2.drop i = b.2.2.drop i))
  | 0, i, h => by
    refine EvP.fn (fun k => spec_AutoSame_L122_eq k _ _ _) (EvP.decN (by omega) (EvP.now ?_))
    rw [List.drop_eq_nil_of_le (by omega), List.drop_eq_nil_of_le (by omega)]; simp
  | n + 1, i, h => by
    have key := drop_eq_iff a.2.2 b.2.2 i [] (by omega) (by omega)
    refine EvP.fn (fun k => spec_AutoSame_L122_eq k _ _ _) (EvP.decY (by omega) (EvP.yes (by omega) (EvP.yes (by omega) (EvP.yes (by omega) (EvP.yes (by omega) ?_)))))
    rw [Int.toNat_natCast]
    have no : a.2.2.getD i [] ≠ b.2.2.getD i [] → false = decide (a.2.2.drop i = b.2.2.drop i) := fun hne => by
      symm; rw [decide_eq_false_iff_not, key]; exact fun h => hne h.1
    refine EvP.notT (fun hne => EvP.now (no (fun e => hne (by rw [e])))) (fun he => ?_)
    refine specSame_row a b ha hl _ i (by omega) (by omega) no (fun e => ?_) (a.2.2.getD i []).length 0 (by omega) rfl
    refine (specSame_rows a b ha hl n (i + 1) (by omega)).mono fun r hr => ?_
    rw [hr]; congr 1; rw [key]; simp [-List.getD_eq_getElem?_getD, e]
theorem specSame_ends (a b : AutoT) (ha : Mid a) (hl : b.2.2.length = a.2.2.length) (hm : b.2.1.length = a.2.1.length) : ∀ (n i : Nat), i + n = a.2.1.length → EvP (fun k => spec_AutoSame_L58 k a b (i : Int)) (fun r => r = (decide (a.2.1.drop i = b.2.1.drop i) && decide (a.2.2 = b.2.2)))
  | 0, i, h => by
    have hn := ha.1
    refine EvP.fn (fun k => spec_AutoSame_L58_eq k _ _ _) (EvP.decN (by omega) ?_)
    refine (specSame_rows a b ha hl a.2.2.length 0 (by omega)).mono fun r hr => ?_
    have e1 : a.2.1.drop i = [] := List.drop_eq_nil_of_le (by omega)
    have e2 : b.2.1.drop i = [] := List.drop_eq_nil_of_le (by omega)
    rw [hr, e1, e2, List.drop_zero, List.drop_zero]; simp
  | n + 1, i, h => by
    have hn := ha.1
    have key := drop_eq_iff a.2.1 b.2.1 i false (by omega) (by omega)
    refine EvP.fn (fun k => spec_AutoSame_L58_eq k _ _ _) (EvP.decY (by omega) (EvP.yes (by omega) (EvP.yes (by omega) (EvP.yes (by omega) (EvP.yes (by omega) ?_)))))
    rw [Int.toNat_natCast]
    refine EvP.notT (fun hne => EvP.now ?_) (fun he => ?_)
    · have : ¬ (a.2.1.drop i = b.2.1.drop i) := by rw [key]; exact fun h => hne h.1
      rw [decide_eq_false this]; rfl
    · rw [w64 (by omega) (by omega)]
      refine (specSame_ends a b ha hl hm n (i + 1) (by omega)).mono fun r hr => ?_
      rw [hr]; congr 1; congr 1; rw [key]; simp [-List.getD_eq_getElem?_getD, he]
theorem specSame_ev (a b : AutoT) (ha : Mid a) : EvP (fun k => spec_AutoSame k a.1 a.2.1 a.2.2 b.1 b.2.1 b.2.2) (fun r => r = decide (a = b)) := by
  have ext : (a = b) ↔ (a.1 = b.1 ∧ a.2.1 = b.2.1 ∧ a.2.2 = b.2.2) := ⟨fun h => by rw [h]; exact ⟨rfl, rfl, rfl⟩, fun h => Prod.ext h.1 (Prod.ext h.2.1 h.2.2)⟩
  have no : ¬ (a.1 = b.1 ∧ a.2.1 = b.2.1 ∧ a.2.2 = b.2.2) → false = decide (a = b) := fun h => by symm; rw [decide_eq_false_iff_not, ext]; exact h
  refine EvP.fn (fun k => spec_AutoSame_eq k _ _ _ _ _ _) (EvP.notF (fun h1 => EvP.notF (fun h2 => EvP.notT (fun h3 => EvP.now (no ?_)) (fun h3 => ?_)) (fun h2 => EvP.now (no ?_))) (fun h1 => EvP.now (no ?_)))
  · exact fun h => h3 (by rw [h.2.2])
  · refine (specSame_ends a b ha (by omega) (by omega) a.2.1.length 0 (by omega)).mono fun r hr => ?_
    rw [hr, List.drop_zero, List.drop_zero]
    rw [← Bool.decide_and]; congr 1; rw [ext]; simp [h1]
  · exact fun h => h2 (by rw [h.2.1])
  · exact fun h => h1 h.1
theorem drawSame_ev (l : List Int) (h : ∀ x ∈ l, (Lit.int .u8 x).wf = true) : EvP (fun k => spec_DrawAutoSame k l) (fun r => Sml r.1 ∧ Sml r.2) := by
  refine EvP.fn (fun k => spec_DrawAutoSame_eq k _) (EvP.bind (open_ev l h) fun a ha => EvP.bind (some_ev (m := 1000) (ha.less (by omega))) fun b hb => ?_)
  refine EvP.decF (fun h1 => EvP.bind (pick_ev (m := 999) hb.2 (by omega) (by omega)) fun c hc => ?_) (fun _ => EvP.bind (some_ev (m := 900) (hb.2.less (by omega))) fun c hc => EvP.now ⟨hb.1, hc.1⟩)
  refine EvP.dec (fun _ => EvP.bind (some_ev (m := 900) (hc.2.2.less (by omega))) fun d hd => EvP.now ⟨hb.1, hd.1⟩) (fun _ => EvP.bind (copy_ev b.1 hb.1) fun d hd => ?_)
  subst hd
  refine EvP.bind (pick_ev (m := 998) hc.2.2 (by omega) (by omega)) fun e he => EvP.dec (fun _ => ?_) (fun _ => EvP.now ⟨hb.1, hb.1⟩)
  simp only [Int.toNat_zero]
  refine EvP.yes (by omega) (EvP.yes (by omega) (EvP.dec (fun h2 => EvP.yes (by omega) (EvP.yes (by omega) (EvP.bind (num_ev (m := 997) he.2.2 _ (by simp) (by simp)) fun g hg => EvP.yes (by omega) (EvP.yes (by omega) (EvP.now ⟨hb.1, ?_⟩))))) (fun _ => EvP.now ⟨hb.1, hb.1⟩)))
  refine ⟨hb.1.1, by rw [List.length_set]; exact hb.1.2.1, fun r hr => ?_⟩
  rcases set_mem hr with rfl | hr
  · rw [List.length_set]; exact hb.1.2.2 _ (getD_mem _ _ _ (by omega))
  · exact hb.1.2.2 r hr
theorem wrap_ne (x : Int) : IntKind.i64.wrap (x + 1) ≠ x := by rw [IntKind.wrap_i64]; omega
theorem law_ev (l : List Int) (h : ∀ x ∈ l, (Lit.int .u8 x).wf = true) : EvP (fun k => laws_FnAutoSame k l) (fun r => r = true) := by
  refine EvP.fn (fun k => laws_FnAutoSame_eq k l) (EvP.dec (fun _ => EvP.now rfl) (fun _ => ?_))
  refine EvP.bind (drawSame_ev l h) fun ab hab => EvP.bind (P := Sml) (EvP.fn (fun k => spec_DrawAutoOk_eq k _) (EvP.bind (open_ev l h) fun a ha => EvP.bind (some_ev (m := 1000) (ha.less (by omega))) fun b hb => EvP.now hb.1)) fun c hc => ?_
  obtain ⟨a, b⟩ := ab
  have ha := hab.1.mid
  have hb := hab.2.mid
  refine EvP.bind (implSame_ev a b ha) fun r1 h1 => EvP.bind (specSame_ev a b ha) fun r2 h2 => ?_
  subst h1 h2
  refine EvP.notF (fun _ => EvP.bind (implSame_ev a b ha) fun r3 h3 => EvP.bind (implSame_ev b a hb) fun r4 h4 => ?_) (fun h => absurd rfl h)
  subst h3 h4
  refine EvP.notF (fun _ => EvP.bind (implSame_ev a a ha) fun r5 h5 => ?_) (fun h => absurd (by congr 1; exact propext ⟨fun h => h.symm, fun h => h.symm⟩) h)
  rw [decide_eq_true rfl] at h5
  subst h5
  refine EvP.yes rfl (EvP.bind (implAutoOk_ev c hc.mid) fun r6 h6 => EvP.bind (specAutoOk_ev c) fun r7 h7 => ?_)
  subst h6 h7
  refine EvP.notT (fun h => absurd rfl h) (fun _ => EvP.bind (implSame_ev a (IntKind.i64.wrap (a.1 + 1), a.2.1, a.2.2) ha) fun r8 h8 => EvP.now ?_)
  have : ¬ a = (IntKind.i64.wrap (a.1 + 1), a.2.1, a.2.2) := fun e => wrap_ne a.1 (congrArg Prod.fst e).symm
  rw [h8, decide_eq_false this]
end Go.Proofs.Ytjdihogbghcajaa.Pure
