/- What the reader of draws answers: they answer, and within which bounds. -/
import Derived.Test.YtmonmbjjobcnaaaDoorEv
import Derived.Test.YtmonmbjjobcnaaaDoorEqFnAutoOwn
namespace Go.Proofs.YtmonmbjjobcnaaaDoor.Pure
open Go Go.Proofs.YtmonmbjjobcnaaaDoor.Eng Go.Proofs.YtmonmbjjobcnaaaDoor.Eq Go.Proofs.YtmonmbjjobcnaaaDoor.Ev
set_option autoImplicit false
set_option linter.unusedVariables false
set_option linter.unusedSimpArgs false
set_option linter.unnecessarySimpa false

def Bytes (s : List Int) : Prop := (∀ x ∈ s, 0 ≤ x ∧ x ≤ 255) ∧ s.length ≤ 2000
/-- A reader, m draws ahead. -/
def Rd (m : Nat) (b : List Int) (p : Int) : Prop := Bytes b ∧ 0 ≤ p ∧ p + m ≤ 100000000
theorem Rd.less {m n : Nat} {b : List Int} {p : Int} (h : Rd m b p) (hn : n ≤ m) : Rd n b p := ⟨h.1, h.2.1, by have := h.2.2; omega⟩

theorem open_ev (l : List Int) (h : ∀ x ∈ l, (Lit.int .u8 x).wf = true) : EvP (fun k => spec_l17Open k l) (fun r => Rd 100000000 r.1 r.2) := by
  refine EvP.fn (fun k => spec_l17Open_eq k l) (EvP.dec (fun h1 => ?_) (fun h1 => ?_))
  · refine EvP.yes (by omega) (EvP.yes (by omega) (EvP.yes (by omega) (EvP.now ⟨⟨fun x hx => wf_byte (h x ?_), ?_⟩, by simp, by simp⟩)))
    · exact List.mem_of_mem_take (List.mem_of_mem_drop hx)
    · simp; omega
  · exact EvP.now ⟨⟨fun x hx => wf_byte (h x hx), by show l.length ≤ 2000; omega⟩, by simp, by simp⟩

theorem pick_ev {m : Nat} {b : List Int} {p : Int} (hr : Rd (m + 1) b p) {n : Int} (hn : 1 ≤ n) (hn2 : n ≤ 1000000000) :
    EvP (fun k => spec_l17Rd_pick k b p n) (fun r => 0 ≤ r.1 ∧ r.1 < n ∧ Rd m r.2.1 r.2.2) := by
  obtain ⟨⟨hb, hl⟩, hp, hp2⟩ := hr
  have e1 : IntKind.i64.wrap (p + 1) = p + 1 := w64 (by omega) (by omega)
  have e2 : IntKind.i64.wrap (p + 1 - 1) = p := by rw [w64 (by omega) (by omega)]; omega
  have fin : ∀ x : Int, 0 ≤ x ∧ x < n → (0 ≤ (x, b, p + 1).1 ∧ (x, b, p + 1).1 < n ∧ Rd m (x, b, p + 1).2.1 (x, b, p + 1).2.2) := fun x h => ⟨h.1, h.2, ⟨hb, hl⟩, by show 0 ≤ p + 1; omega, by show p + 1 + m ≤ 100000000; omega⟩
  refine EvP.fn (fun k => spec_l17Rd_pick_eq k b p n) ?_
  rw [e1, e2]
  refine EvP.decF (fun _ => ?_) (fun h => absurd h (by omega))
  refine EvP.dec (fun h0 => EvP.now (fin 0 (by omega))) (fun h0 => ?_)
  refine EvP.dec (fun h1 => ?_) (fun h1 => ?_)
  · refine EvP.yes hp (EvP.yes h1 (EvP.no (by omega) (EvP.now (fin _ ?_))))
    have hx := getD_byte hb p.toNat
    rw [w64 (by omega) (by omega)]
    exact tmod_range _ n hx.1 hn
  · have hL : (1 : Int) ≤ b.length := by omega
    have t1 := tmod_range p b.length hp hL
    have e3 : IntKind.i64.wrap (p * 7) = p * 7 := w64 (by omega) (by omega)
    have e4 : IntKind.i64.wrap (p * 7 + 3) = p * 7 + 3 := w64 (by omega) (by omega)
    have t2 := tmod_range (p * 7 + 3) b.length (by omega) hL
    rw [e3, e4]
    refine EvP.no (by omega) (EvP.yes t1.1 (EvP.yes t1.2 (EvP.no (by omega) (EvP.yes t2.1 (EvP.yes t2.2 (EvP.no (by omega) (EvP.no (by omega) (EvP.now (fin _ ?_)))))))))
    generalize hA : b.getD (p.tmod b.length).toNat 0 = A
    generalize hB : b.getD ((p * 7 + 3).tmod b.length).toNat 0 = B'
    have hA' := getD_byte hb (p.tmod b.length).toNat
    have hB' := getD_byte hb ((p * 7 + 3).tmod b.length).toNat
    rw [hA] at hA'
    rw [hB] at hB'
    have hq : 0 ≤ Int.tdiv p b.length ∧ Int.tdiv p b.length ≤ p := ⟨Int.tdiv_nonneg hp (by omega), by
      rw [Int.tdiv_eq_ediv_of_nonneg hp]; exact Int.ediv_le_self _ hp⟩
    generalize Int.tdiv p b.length = Q at hq
    rw [w64 (x := A) (by omega) (by omega), w64 (x := B') (by omega) (by omega), w64 (x := A * 131) (by omega) (by omega), w64 (x := B' * 1117) (by omega) (by omega), w64 (x := p * 29) (by omega) (by omega), w64 (x := Q) (by omega) (by omega), w64 (x := Q * 53) (by omega) (by omega), w64 (x := A * 131 + B' * 1117) (by omega) (by omega), w64 (x := A * 131 + B' * 1117 + p * 29) (by omega) (by omega), w64 (x := A * 131 + B' * 1117 + p * 29 + Q * 53) (by omega) (by omega)]
    generalize hX : A * 131 + B' * 1117 + p * 29 + Q * 53 = X
    have hX1 : 0 ≤ X ∧ X ≤ 100000000000 := by omega
    have hd : 0 ≤ Int.tdiv X 64 ∧ Int.tdiv X 64 ≤ X := ⟨Int.tdiv_nonneg hX1.1 (by omega), by
      rw [Int.tdiv_eq_ediv_of_nonneg hX1.1]; exact Int.ediv_le_self _ hX1.1⟩
    generalize Int.tdiv X 64 = Y at hd
    rw [w64 (x := Y) (by omega) (by omega)]
    exact tmod_range (bxor X Y) n (xor_nonneg X Y (by omega) (by omega) (by omega) (by omega)) hn
theorem num_ev {m : Nat} {b : List Int} {p : Int} (hr : Rd (m + 1) b p) (l : List Int) (hl : 1 ≤ l.length) (hl2 : l.length ≤ 1000) :
    EvP (fun k => spec_l17Rd_num k b p l) (fun r => r.1 ∈ l ∧ Rd m r.2.1 r.2.2) := by
  refine EvP.fn (fun k => spec_l17Rd_num_eq k b p l) (EvP.bind (pick_ev hr (n := l.length) (by omega) (by omega)) fun a ha => ?_)
  exact EvP.yes ha.1 (EvP.yes ha.2.1 (EvP.now ⟨getD_mem _ _ _ (by omega), ha.2.2⟩))
theorem of_ev {m : Nat} {b : List Int} {p : Int} (hr : Rd (m + 1) b p) (l : List (List UInt8)) (hl : 1 ≤ l.length) (hl2 : l.length ≤ 1000) :
    EvP (fun k => spec_l17Rd_of k b p l) (fun r => r.1 ∈ l ∧ Rd m r.2.1 r.2.2) := by
  refine EvP.fn (fun k => spec_l17Rd_of_eq k b p l) (EvP.bind (pick_ev hr (n := l.length) (by omega) (by omega)) fun a ha => ?_)
  exact EvP.yes ha.1 (EvP.yes ha.2.1 (EvP.now ⟨getD_mem _ _ _ (by omega), ha.2.2⟩))
/-! signs -/
def small (c : UInt8) : Bool := decide (97 ≤ c.toNat) && decide (c.toNat ≤ 100)
theorem l1Small_ev (c : UInt8) : EvP (fun k => spec_l1Small k ((c.toNat : Nat) : Int)) (fun r => r = small c) := by
  refine EvP.fn (fun k => spec_l1Small_eq k _) (EvP.dec (fun h => EvP.now ?_) (fun h => EvP.now ?_))
  · have h1 : 97 ≤ c.toNat := by omega
    have e : decide ((c.toNat : Int) ≤ 100) = decide (c.toNat ≤ 100) := by congr 1; exact propext ⟨fun h => by omega, fun h => by omega⟩
    rw [e]; simp [small, h1]
  · have h1 : ¬ 97 ≤ c.toNat := by omega
    simp [small, h1]
theorem drop_cons {α : Type} (l : List α) (i : Nat) (d : α) (h : i < l.length) : l.drop i = l.getD i d :: l.drop (i + 1) := by
  rw [List.drop_eq_getElem_cons h, List.getD_eq_getElem?_getD, List.getElem?_eq_getElem h]; rfl
/-! texts -/
def textOk (s : List UInt8) : Bool := s.all small && decide (s.length ≤ 8)
theorem specTextOk_loop (s : List UInt8) (hs : s.length < 4611686018427387904) : ∀ (n i : Nat), i + n = s.length → EvP (fun k => spec_TextOk_L26 k s (i : Int)) (fun r => r = ((s.drop i).all small && decide (s.length ≤ 8)))
  | 0, i, h => by
    refine EvP.fn (fun k => spec_TextOk_L26_eq k s _) (EvP.dec (fun h' => absurd h' (by omega)) (fun _ => EvP.now ?_))
    have e : decide ((s.length : Int) ≤ 8) = decide (s.length ≤ 8) := by congr 1; exact propext ⟨fun h => by omega, fun h => by omega⟩
    rw [e, List.drop_eq_nil_of_le (by omega)]; simp
  | n + 1, i, h => by
    refine EvP.fn (fun k => spec_TextOk_L26_eq k s _) (EvP.dec (fun _ => EvP.yes (by omega) (EvP.yes (by omega) ?_)) (fun h' => absurd (show (i : Int) < s.length by omega) h'))
    rw [Int.toNat_natCast]
    refine EvP.bind (l1Small_ev _) fun b hb => ?_
    subst hb
    rw [drop_cons s i 0 (by omega)]
    cases hc : small (s.getD i 0) with
    | false => exact EvP.yes rfl (EvP.now (by rw [List.all_cons, hc]; rfl))
    | true =>
      refine EvP.no (by simp) ?_
      rw [w64 (by omega) (by omega)]
      have := specTextOk_loop s hs n (i + 1) (by omega)
      refine this.mono fun r hr => by rw [hr, List.all_cons, hc, Bool.true_and]
theorem specTextOk_ev (s : List UInt8) (hs : s.length < 4611686018427387904) : EvP (fun k => spec_TextOk k s) (fun r => r = textOk s) := by
  refine EvP.fn (fun k => spec_TextOk_eq k s) ((specTextOk_loop s hs s.length 0 (by omega)).mono fun r hr => by rw [hr]; rfl)
theorem l4Text_loop : ∀ (n m : Nat) {b : List Int} {p : Int} (t : List UInt8) (i N : Int), i + n = N → 0 ≤ i → N ≤ 1000 → Rd (m + n) b p → t.length ≤ i → EvP (fun k => spec_l4Text_L58 k (b, p) N t i) (fun r => r.1.length ≤ N ∧ Rd m r.2.1 r.2.2)
  | 0, m, b, p, t, i, N, h, h0, hN, hr, ht => by
    refine EvP.fn (fun k => spec_l4Text_L58_eq k _ _ _ _) (EvP.decN (by omega) (EvP.now ⟨by show (t.length : Int) ≤ N; omega, hr⟩))
  | n + 1, m, b, p, t, i, N, h, h0, hN, hr, ht => by
    refine EvP.fn (fun k => spec_l4Text_L58_eq k _ _ _ _) (EvP.decY (by omega) ?_)
    refine EvP.bind (of_ev (m := m + n) (hr.less (by omega)) _ (by simp) (by simp)) fun a ha => ?_
    have hl : a.1.length = 1 := by
      have := ha.1
      simp only [List.mem_cons, List.not_mem_nil, or_false] at this
      rcases this with h | h | h | h | h | h <;> rw [h] <;> rfl
    refine EvP.yes (by omega) ?_
    rw [w64 (by omega) (by omega)]
    exact l4Text_loop n m _ (i + 1) N (by omega) (by omega) hN ha.2 (by simp [hl]; omega)
theorem l4Text_ev {m n : Nat} {b : List Int} {p : Int} {N : Int} (h0 : 0 ≤ N) (hN : N ≤ n) (hn : n ≤ 1000) (hr : Rd (m + n) b p) : EvP (fun k => spec_l4Text k b p N) (fun r => r.1.length ≤ N ∧ Rd m r.2.1 r.2.2) := by
  obtain ⟨N', rfl⟩ := Int.eq_ofNat_of_zero_le h0
  exact EvP.fn (fun k => spec_l4Text_eq k _ _ _) (l4Text_loop N' m [] 0 _ (by omega) (by omega) (by omega) (hr.less (by omega)) (by simp))
/-! automata drawn -/
abbrev AutoT := Int × List Bool × List (List Int)
/-- Not large. -/
def Sml (a : AutoT) : Prop := a.2.1.length ≤ 10 ∧ a.2.2.length ≤ 10 ∧ ∀ r ∈ a.2.2, r.length ≤ 10
theorem mE {n : Nat} (h : n ≤ 1000000) : n < maxLenE := by unfold maxLenE; omega
theorem specAutoOf_loop (s : List UInt8) (hs : s.length ≤ 5) (hok : s.all small = true) (x : AutoT) : ∀ (n i : Nat) (y : AutoT), i + n = s.length + 1 → y.2.1.length ≤ i → y.2.2.length ≤ i → (∀ r ∈ y.2.2, r.length ≤ 10) →
    EvP (fun k => spec_AutoOf_L122 k s x y (i : Int)) (fun r => r.2 = true ∧ Sml r.1)
  | 0, i, y, h, h1, h2, h3 => by
    refine EvP.fn (fun k => spec_AutoOf_L122_eq k _ _ _ _) (EvP.decN (by omega) (EvP.now ⟨rfl, ?_, ?_, h3⟩))
    · show y.2.1.length ≤ 10; omega
    · show y.2.2.length ≤ 10; omega
  | n + 1, i, y, h, h1, h2, h3 => by
    have next : ∀ (row : List Int), row.length ≤ 10 → EvP (fun k => spec_AutoOf_L7827 k s (x.fst, x.snd.fst, x.snd.snd) (y.fst, y.snd.fst, y.snd.snd) (i : Int) row) (fun r => r.2 = true ∧ Sml r.1) := fun row hrow => by
      refine EvP.fn (fun k => spec_AutoOf_L7827_eq k _ _ _ _ _) (EvP.yes (mE (by simp; omega)) (EvP.yes (mE (by simp; omega)) ?_))
      rw [w64 (by omega) (by omega)]
      refine specAutoOf_loop s hs hok (x.fst, x.snd.fst, x.snd.snd) n (i + 1) _ (by omega) (by simp; omega) (by simp; omega) (fun r hr => ?_)
      rcases List.mem_append.1 hr with hr | hr
      · exact h3 r hr
      · rw [List.mem_singleton.1 hr]; exact hrow
    refine EvP.fn (fun k => spec_AutoOf_L122_eq k _ _ _ _) (EvP.decY (by omega) (EvP.dec (fun h' => ?_) (fun h' => next _ (by simp))))
    have hc : small (s.getD i 0) = true := List.all_eq_true.1 hok _ (getD_mem s i 0 (by omega))
    simp only [small, Bool.and_eq_true, decide_eq_true_eq] at hc
    refine EvP.yes (by omega) (EvP.yes h' ?_)
    rw [Int.toNat_natCast]
    have e : IntKind.i64.wrap (IntKind.u8.wrap (((s.getD i 0).toNat : Int) - 97)) = ((s.getD i 0).toNat : Int) - 97 := by
      rw [w8 (by omega) (by omega), w64 (by omega) (by omega)]
    rw [e]
    exact EvP.yes (by omega) (EvP.yes (by show ((s.getD i 0).toNat : Int) - 97 < 4; omega) (next _ (by simp)))
theorem specAutoOf_ev (s : List UInt8) (hs : s.length ≤ 1000) : EvP (fun k => spec_AutoOf k s) (fun r => Sml r.1) := by
  refine EvP.fn (fun k => spec_AutoOf_eq k s) (EvP.bind (specTextOk_ev s (by omega)) fun b hb => ?_)
  subst hb
  have z : Sml ((0 : Int), ([] : List Bool), ([] : List (List Int))) := ⟨by simp, by simp, fun r hr => by simp at hr⟩
  cases h : textOk s with
  | false => exact EvP.no (by simp) (EvP.now z)
  | true =>
    refine EvP.yes rfl (EvP.dec (fun _ => EvP.now z) (fun h' => ?_))
    simp only [textOk, Bool.and_eq_true] at h
    exact (specAutoOf_loop s (by omega) h.1 _ (s.length + 1) 0 _ (by omega) (by simp) (by simp) (fun r hr => by simp at hr)).mono fun r hr => hr.2
/-- Rows of four. -/
def Fours (a : AutoT) : Prop := a.2.1.length ≤ 6 ∧ 1 ≤ a.2.2.length ∧ a.2.2.length ≤ 6 ∧ ∀ r ∈ a.2.2, r.length = 4
theorem l13Auto_loops (x : AutoT) (N : Int) (hN1 : 1 ≤ N) (hN : N ≤ 6) : ∀ (n m : Nat) {b : List Int} {p : Int} (y : AutoT) (i : Int), i + n = N → 0 ≤ i → y.2.1.length = i → y.2.2.length = i → (∀ r ∈ y.2.2, r.length = 4) → Rd (m + 5 * n) b p →
    EvP (fun k => spec_l13Auto_L122 k (b, p) x N y i) (fun r => Fours r.1 ∧ Rd m r.2.1 r.2.2)
  | 0, m, b, p, y, i, h, h0, h1, h2, h3, hr => by
    refine EvP.fn (fun k => spec_l13Auto_L122_eq k _ _ _ _ _) (EvP.decN (by omega) (EvP.now ⟨⟨?_, ?_, ?_, h3⟩, hr⟩))
    · show y.2.1.length ≤ 6; omega
    · show 1 ≤ y.2.2.length; omega
    · show y.2.2.length ≤ 6; omega
  | n + 1, m, b, p, y, i, h, h0, h1, h2, h3, hr => by
    have inner : ∀ (q : Nat) {b : List Int} {p : Int} (y : AutoT) (row : List Int) (j : Int), j + q = 4 → 0 ≤ j → row.length = j → y.2.1.length = i + 1 → y.2.2.length = i → (∀ r ∈ y.2.2, r.length = 4) → Rd (m + 5 * n + q) b p → ∀ x : AutoT,
        EvP (fun k => spec_l13Auto_L62618 k (b, p) x N y i row j) (fun r => Fours r.1 ∧ Rd m r.2.1 r.2.2) := by
      intro q
      induction q with
      | zero =>
        intro b p y row j hj hj0 hrow g1 g2 g3 hr x
        refine EvP.fn (fun k => spec_l13Auto_L62618_eq k _ _ _ _ _ _ _) (EvP.decN (by omega) (EvP.yes (mE (by simp; omega)) ?_))
        rw [w64 (by omega) (by omega)]
        refine l13Auto_loops _ N hN1 hN n m _ (i + 1) (by omega) (by omega) g1 (by simp; omega) (fun r hr => ?_) hr
        rcases List.mem_append.1 hr with hr | hr
        · exact g3 r hr
        · rw [List.mem_singleton.1 hr]; omega
      | succ q ih =>
        intro b p y row j hj hj0 hrow g1 g2 g3 hr x
        refine EvP.fn (fun k => spec_l13Auto_L62618_eq k _ _ _ _ _ _ _) (EvP.decY (by omega) ?_)
        rw [w64 (x := N + 1) (by omega) (by omega)]
        refine EvP.bind (pick_ev (m := m + 5 * n + q) (hr.less (by omega)) (by omega) (by omega)) fun a ha => ?_
        refine EvP.yes (mE (by simp; omega)) ?_
        rw [w64 (x := j + 1) (by omega) (by omega)]
        exact ih _ _ (j + 1) (by omega) (by omega) (by simp; omega) g1 g2 g3 ha.2.2 _
    refine EvP.fn (fun k => spec_l13Auto_L122_eq k _ _ _ _ _) (EvP.decY (by omega) ?_)
    refine EvP.bind (pick_ev (m := m + 5 * n + 4) (hr.less (by omega)) (by omega) (by omega)) fun a ha => ?_
    exact EvP.yes (mE (by simp; omega)) (inner 4 (y.1, y.2.1 ++ [decide (a.1 = 0)], y.2.2) [] 0 (by omega) (by omega) rfl (by simp; omega) h2 h3 ha.2.2 _)
theorem l13Auto_ev {m : Nat} {b : List Int} {p : Int} (hr : Rd (m + 32) b p) : EvP (fun k => spec_l13Auto k b p) (fun r => Fours r.1 ∧ Rd m r.2.1 r.2.2) := by
  refine EvP.fn (fun k => spec_l13Auto_eq k _ _) (EvP.bind (num_ev (m := m + 31) hr _ (by simp) (by simp)) fun a ha => ?_)
  have hN : 1 ≤ a.1 ∧ a.1 ≤ 6 := by
    have := ha.1
    simp only [List.mem_cons, List.not_mem_nil, or_false] at this
    omega
  refine EvP.bind (pick_ev (m := m + 30) ha.2 hN.1 (by omega)) fun c hc => ?_
  obtain ⟨N', hN'⟩ := Int.eq_ofNat_of_zero_le (show 0 ≤ a.1 by omega)
  exact l13Auto_loops _ a.1 hN.1 hN.2 N' m _ 0 (by omega) (by omega) (by simp) (by simp) (fun r hr => by simp at hr) (hc.2.2.less (by omega))
theorem copy_loop (x y : AutoT) (hx : Sml x) : ∀ (n i : Nat) (z : AutoT), i + n = x.2.2.length → z.2.2 = x.2.2.take i → EvP (fun k => spec_l13Copy_L58 k x y z (i : Int)) (fun r => r = (z.1, z.2.1, x.2.2))
  | 0, i, z, h, hz => by
    refine EvP.fn (fun k => spec_l13Copy_L58_eq k _ _ _ _) (EvP.decN (by omega) (EvP.now ?_))
    rw [hz, List.take_of_length_le (by omega)]
  | n + 1, i, z, h, hz => by
    have hx2 := hx.2.1
    have hr : (x.2.2.getD i []).length ≤ 10 := hx.2.2 _ (getD_mem _ _ _ (by omega))
    refine EvP.fn (fun k => spec_l13Copy_L58_eq k _ _ _ _) (EvP.decY (by omega) (EvP.yes (by omega) (EvP.yes (by omega) ?_)))
    rw [Int.toNat_natCast]
    refine EvP.yes (mE (by omega)) (EvP.yes (mE (by rw [hz]; simp; omega)) ?_)
    rw [w64 (by omega) (by omega)]
    refine (copy_loop (x.fst, x.snd.fst, x.snd.snd) _ hx n (i + 1) _ (by show i + 1 + n = x.2.2.length; omega) ?_).mono fun r hr => hr
    show z.2.2 ++ [x.2.2.getD i []] = x.2.2.take (i + 1)
    rw [hz, List.take_add_one, List.getD_eq_getElem?_getD, List.getElem?_eq_getElem (by omega)]
    rfl
theorem copy_ev (a : AutoT) (ha : Sml a) : EvP (fun k => spec_l13Copy k a.1 a.2.1 a.2.2) (fun r => r = a) := by
  refine EvP.fn (fun k => spec_l13Copy_eq k _ _ _) (EvP.yes (mE (by have := ha.1; omega)) ?_)
  exact (copy_loop (a.1, a.2.1, a.2.2) _ ha a.2.2.length 0 _ (by show 0 + a.2.2.length = a.2.2.length; omega) rfl).mono fun r hr => hr
theorem Fours.sml {a : AutoT} (h : Fours a) : Sml a := ⟨by have := h.1; omega, by have := h.2.2.1; omega, fun r hr => by rw [h.2.2.2 r hr]; omega⟩
theorem set_mem {α : Type} {l : List α} {i : Nat} {x y : α} (h : y ∈ l.set i x) : y = x ∨ y ∈ l := by
  rcases List.mem_or_eq_of_mem_set h with h | h
  · exact .inr h
  · exact .inl h
theorem bent_ev {m : Nat} {b : List Int} {p : Int} (hr : Rd (m + 3) b p) (a : AutoT) (ha : Fours a) : EvP (fun k => spec_l13Bent k b p a.1 a.2.1 a.2.2) (fun r => Sml r.1 ∧ Rd m r.2.1 r.2.2) := by
  have hs := ha.sml
  obtain ⟨h1, h2, h3, h4⟩ := ha
  refine EvP.fn (fun k => spec_l13Bent_eq k _ _ _ _ _) (EvP.bind (copy_ev a hs) fun x hx => ?_)
  subst hx
  have h0 : (x.2.2.getD 0 []).length = 4 := h4 _ (getD_mem _ _ _ (by omega))
  refine EvP.bind (pick_ev (m := m + 2) hr (by omega) (by omega)) fun c hc => ?_
  refine EvP.dec (fun _ => ?_) (fun _ => EvP.dec (fun _ => ?_) (fun _ => EvP.dec (fun _ => ?_) (fun _ => EvP.dec (fun _ => ?_) (fun _ => EvP.dec (fun _ => ?_) (fun _ => ?_)))))
  · exact EvP.bind (num_ev (m := m + 1) hc.2.2 _ (by simp) (by simp)) fun d hd => EvP.now ⟨hs, hd.2.less (by omega)⟩
  · refine EvP.yes (mE (by simp; omega)) (EvP.now ⟨⟨?_, hs.2⟩, hc.2.2.less (by omega)⟩)
    show (x.2.1 ++ [true]).length ≤ 10
    simp; omega
  · simp only [Int.toNat_zero]
    refine EvP.yes (by omega) (EvP.yes (by omega) (EvP.yes (by omega) (EvP.yes (by omega) (EvP.yes (by omega) (EvP.yes (by omega) (EvP.yes (by omega) (EvP.now ⟨⟨hs.1, ?_, ?_⟩, hc.2.2.less (by omega)⟩)))))))
    · show (x.2.2.set 0 _).length ≤ 10
      rw [List.length_set]; omega
    · intro r hr
      rcases set_mem hr with rfl | hr
      · rw [List.length_drop, List.length_take]; omega
      · exact hs.2.2 r hr
  · simp only [Int.toNat_zero]
    refine EvP.yes (by omega) (EvP.yes (by omega) (EvP.bind (pick_ev (m := m + 1) hc.2.2 (by omega) (by omega)) fun d hd => EvP.bind (num_ev (m := m) hd.2.2 _ (by simp) (by simp)) fun e he => ?_))
    refine EvP.yes hd.1 (EvP.yes (by omega) (EvP.now ⟨⟨hs.1, ?_, ?_⟩, he.2⟩))
    · show (x.2.2.set 0 _).length ≤ 10
      rw [List.length_set]; omega
    · intro r hr
      rcases set_mem hr with rfl | hr
      · rw [List.length_set]; omega
      · exact hs.2.2 r hr
  · refine EvP.yes (by omega) (EvP.yes (by omega) (EvP.yes (by omega) (EvP.now ⟨⟨hs.1, ?_, ?_⟩, hc.2.2.less (by omega)⟩)))
    · show (List.drop _ (List.take _ x.2.2)).length ≤ 10
      simp; omega
    · intro r hr
      exact hs.2.2 r (List.mem_of_mem_take (List.mem_of_mem_drop hr))
  · exact EvP.now ⟨hs, hc.2.2.less (by omega)⟩
theorem some_ev {m : Nat} {b : List Int} {p : Int} (hr : Rd (m + 50) b p) : EvP (fun k => spec_l13Some k b p) (fun r => Sml r.1 ∧ Rd m r.2.1 r.2.2) := by
  have tail : ∀ {b : List Int} {p : Int}, Rd (m + 35) b p → EvP (fun k => (spec_l13Auto k b p).bind fun x => (spec_l13Bent k x.snd.fst x.snd.snd x.fst.fst x.fst.snd.fst x.fst.snd.snd).bind fun x => some ((x.fst.fst, x.fst.snd.fst, x.fst.snd.snd), x.snd.fst, x.snd.snd)) (fun r => Sml r.1 ∧ Rd m r.2.1 r.2.2) := fun hr =>
    EvP.bind (l13Auto_ev (m := m + 3) hr) fun a ha => EvP.bind (bent_ev (m := m) ha.2 a.1 ha.1) fun c hc => EvP.now hc
  refine EvP.fn (fun k => spec_l13Some_eq k _ _) (EvP.bind (pick_ev (m := m + 49) hr (by omega) (by omega)) fun a ha => EvP.dec (fun _ => ?_) (fun _ => tail (ha.2.2.less (by omega))))
  refine EvP.bind (pick_ev (m := m + 48) ha.2.2 (by omega) (by omega)) fun c hc => EvP.bind (l4Text_ev (m := m + 40) (n := 6) hc.1 (by omega) (by omega) (hc.2.2.less (by omega))) fun d hd => EvP.bind (specAutoOf_ev d.1 (by omega)) fun e he => ?_
  exact EvP.ite (fun _ => EvP.now ⟨he, hd.2.less (by omega)⟩) (fun _ => tail (hd.2.less (by omega)))
/-! valid automata -/
def goalB (n : Nat) (x : Int) : Bool := decide (-1 ≤ x) && decide (x < n)
def rowOk (n : Nat) (row : List Int) : Bool := decide (row.length = 4) && row.all (goalB n)
def autoOk (a : AutoT) : Bool := decide (1 ≤ a.2.1.length) && decide (a.2.1.length ≤ 6) && decide (a.2.2.length = a.2.1.length) && decide (0 ≤ a.1) && decide (a.1 < a.2.1.length) && a.2.2.all (rowOk a.2.1.length)
theorem goal_ev (a : AutoT) (x : Int) : EvP (fun k => impl_Auto_isGoal k a.1 a.2.1 a.2.2 x) (fun r => r = goalB a.2.1.length x) := by
  refine EvP.fn (fun k => impl_Auto_isGoal_eq k _ _ _ _) (EvP.dec (fun h => EvP.now (by simp [goalB, h])) (fun h => EvP.now (by simp [goalB, h])))
theorem badGoal_ev (a : AutoT) (x : Int) : EvP (fun k => impl_AutoOk_1_1 k x a.1 a.2.1 a.2.2) (fun r => r = !goalB a.2.1.length x) := by
  refine EvP.fn (fun k => impl_AutoOk_1_1_eq k _ _ _ _) (EvP.bind (goal_ev a x) fun b hb => EvP.now ?_)
  rw [hb]; cases goalB a.2.1.length x <;> rfl
theorem badRow_loop (a : AutoT) (row : List Int) (hr : row.length ≤ 1000) : ∀ (n i : Nat), i + n = row.length → EvP (fun k => slices_IndexFunc_Sint_int_L26 k row a.1 a.2.1 a.2.2 (row.length : Int) (i : Int)) (fun r => decide (0 ≤ r) = !(row.drop i).all (goalB a.2.1.length))
  | 0, i, h => by
    refine EvP.fn (fun k => slices_IndexFunc_Sint_int_L26_eq k _ _ _ _ _ _) (EvP.decN (by omega) (EvP.now ?_))
    rw [List.drop_eq_nil_of_le (by omega)]; rfl
  | n + 1, i, h => by
    refine EvP.fn (fun k => slices_IndexFunc_Sint_int_L26_eq k _ _ _ _ _ _) (EvP.decY (by omega) (EvP.yes (by omega) (EvP.yes (by omega) ?_)))
    rw [Int.toNat_natCast, drop_cons row i 0 (by omega)]
    refine EvP.bind (badGoal_ev a _) fun b hb => ?_
    subst hb
    cases hc : goalB a.2.1.length (row.getD i 0) with
    | false => exact EvP.yes rfl (EvP.now (by rw [List.all_cons, hc]; simp))
    | true =>
      refine EvP.no (by simp) ?_
      rw [w64 (by omega) (by omega)]
      exact (badRow_loop a row hr n (i + 1) (by omega)).mono fun r hr => by rw [hr, List.all_cons, hc, Bool.true_and]
theorem badRow_ev (a : AutoT) (row : List Int) (hr : row.length ≤ 1000) : EvP (fun k => impl_AutoOk_1 k row a.1 a.2.1 a.2.2) (fun r => r = !rowOk a.2.1.length row) := by
  refine EvP.fn (fun k => impl_AutoOk_1_eq k _ _ _ _) (EvP.notF (fun h => ?_) (fun h => EvP.now ?_))
  · have h : row.length = 4 := by omega
    refine EvP.bind (P := fun r => r = !row.all (goalB a.2.1.length)) (EvP.fn (fun k => slices_ContainsFunc_Sint_int_eq k _ _ _ _) (EvP.bind (EvP.fn (fun k => slices_IndexFunc_Sint_int_eq k _ _ _ _) (badRow_loop a row hr row.length 0 (by omega))) fun b hb => EvP.now hb)) fun b hb => EvP.now ?_
    rw [hb]; simp [rowOk, h]
  · have h : ¬ row.length = 4 := by omega
    simp [rowOk, h]
theorem badRows_loop (a : AutoT) (ha : a.2.2.length ≤ 1000) (hr : ∀ r ∈ a.2.2, r.length ≤ 1000) : ∀ (n i : Nat), i + n = a.2.2.length → EvP (fun k => slices_IndexFunc_SSint_Sint_L26 k a.2.2 a.1 a.2.1 a.2.2 (a.2.2.length : Int) (i : Int)) (fun r => decide (0 ≤ r) = !(a.2.2.drop i).all (rowOk a.2.1.length))
  | 0, i, h => by
    refine EvP.fn (fun k => slices_IndexFunc_SSint_Sint_L26_eq k _ _ _ _ _ _) (EvP.decN (by omega) (EvP.now ?_))
    rw [List.drop_eq_nil_of_le (by omega)]; rfl
  | n + 1, i, h => by
    refine EvP.fn (fun k => slices_IndexFunc_SSint_Sint_L26_eq k _ _ _ _ _ _) (EvP.decY (by omega) (EvP.yes (by omega) (EvP.yes (by omega) ?_)))
    rw [Int.toNat_natCast, drop_cons a.2.2 i [] (by omega)]
    refine EvP.bind (badRow_ev a _ (hr _ (getD_mem _ _ _ (by omega)))) fun b hb => ?_
    subst hb
    cases hc : rowOk a.2.1.length (a.2.2.getD i []) with
    | false => exact EvP.yes rfl (EvP.now (by rw [List.all_cons, hc]; simp))
    | true =>
      refine EvP.no (by simp) ?_
      rw [w64 (by omega) (by omega)]
      exact (badRows_loop a ha hr n (i + 1) (by omega)).mono fun r hr => by rw [hr, List.all_cons, hc, Bool.true_and]
/-- Short enough to be told. -/
def Mid (a : AutoT) : Prop := a.2.1.length ≤ 1000 ∧ a.2.2.length ≤ 1000 ∧ ∀ r ∈ a.2.2, r.length ≤ 1000
theorem Sml.mid {a : AutoT} (h : Sml a) : Mid a := ⟨by have := h.1; omega, by have := h.2.1; omega, fun r hr => by have := h.2.2 r hr; omega⟩
theorem implAutoOk_ev (a : AutoT) (ha : Mid a) : EvP (fun k => impl_AutoOk k a.1 a.2.1 a.2.2) (fun r => r = autoOk a) := by
  refine EvP.fn (fun k => impl_AutoOk_eq k _ _ _) (EvP.decF (fun h1 => EvP.decF (fun h2 => EvP.notF (fun h3 => EvP.decF (fun h4 => EvP.dec (fun h5 => EvP.now ?_) (fun h5 => ?_)) (fun h => EvP.now ?_)) (fun h => EvP.now ?_)) (fun h => EvP.now ?_)) (fun h => EvP.now ?_))
  · have : ¬ a.1 < a.2.1.length := by omega
    simp [autoOk, this]
  · refine EvP.bind (P := fun r => r = !a.2.2.all (rowOk a.2.1.length)) (EvP.fn (fun k => slices_ContainsFunc_SSint_Sint_eq k _ _ _ _) (EvP.bind (EvP.fn (fun k => slices_IndexFunc_SSint_Sint_eq k _ _ _ _) (badRows_loop a ha.2.1 ha.2.2 a.2.2.length 0 (by omega))) fun b hb => EvP.now hb)) fun b hb => EvP.now ?_
    have e1 : 1 ≤ a.2.1.length := by omega
    have e2 : a.2.1.length ≤ 6 := by omega
    have e3 : a.2.2.length = a.2.1.length := by omega
    have e4 : 0 ≤ a.1 := by omega
    have e5 : a.1 < a.2.1.length := by omega
    rw [hb]; simp only [autoOk, e1, e2, e3, e4, e5, decide_true, Bool.true_and]
    cases a.2.2.all (rowOk a.2.1.length) <;> rfl
  · have : ¬ 0 ≤ a.1 := by omega
    simp [autoOk, this]
  · have : ¬ a.2.2.length = a.2.1.length := by omega
    simp [autoOk, this]
  · have : ¬ a.2.1.length ≤ 6 := by omega
    simp [autoOk, this]
  · have : ¬ 1 ≤ a.2.1.length := by omega
    simp [autoOk, this]
theorem specAutoOk_loops (a : AutoT) (hn : a.2.1.length ≤ 6) (hl : a.2.2.length = a.2.1.length) : ∀ (n i : Nat), i + n = a.2.2.length → EvP (fun k => spec_AutoOk_L122 k a (a.2.1.length : Int) (i : Int)) (fun r => r = (a.2.2.drop i).all (rowOk a.2.1.length))
  | 0, i, h => by
    refine EvP.fn (fun k => spec_AutoOk_L122_eq k _ _ _) (EvP.decN (by omega) (EvP.now ?_))
    rw [List.drop_eq_nil_of_le (by omega)]; rfl
  | n + 1, i, h => by
    refine EvP.fn (fun k => spec_AutoOk_L122_eq k _ _ _) (EvP.decY (by omega) (EvP.yes (by omega) (EvP.yes (by omega) ?_)))
    rw [Int.toNat_natCast, drop_cons a.2.2 i [] (by omega)]
    generalize hrow : a.2.2.getD i [] = row
    refine EvP.notT (fun h4 => EvP.now ?_) (fun h4 => ?_)
    · have : ¬ row.length = 4 := by omega
      rw [List.all_cons]; simp [rowOk, this]
    · have h4 : row.length = 4 := by omega
      have inner : ∀ (q j : Nat), j + q = 4 → EvP (fun k => spec_AutoOk_L15654 k (a.fst, a.snd.fst, a.snd.snd) (a.2.1.length : Int) (i : Int) (j : Int)) (fun r => r = ((row.drop j).all (goalB a.2.1.length) && (a.2.2.drop (i + 1)).all (rowOk a.2.1.length))) := by
        intro q
        induction q with
        | zero =>
          intro j hj
          refine EvP.fn (fun k => spec_AutoOk_L15654_eq k _ _ _ _) (EvP.decN (by omega) ?_)
          rw [w64 (by omega) (by omega), List.drop_eq_nil_of_le (by omega)]
          exact (specAutoOk_loops a hn hl n (i + 1) (by omega)).mono fun r hr => by rw [hr]; rfl
        | succ q ih =>
          intro j hj
          refine EvP.fn (fun k => spec_AutoOk_L15654_eq k _ _ _ _) (EvP.decY (by omega) (EvP.yes (by omega) (EvP.yes (by show (i : Int) < (a.2.2.length : Int); omega) (EvP.yes (by omega) ?_))))
          simp only [Int.toNat_natCast, hrow]
          rw [drop_cons row j 0 (by omega)]
          refine EvP.yes (by omega) (EvP.decF (fun h1 => EvP.yes (by omega) (EvP.yes (by omega) (EvP.yes (by omega) (EvP.yes (by omega) (EvP.dec (fun h2 => EvP.now ?_) (fun h2 => ?_)))))) (fun h1 => EvP.now ?_))
          · have : ¬ row.getD j 0 < a.2.1.length := by omega
            rw [List.all_cons, goalB]; simp [-List.getD_eq_getElem?_getD, this]
          · have e1 : -1 ≤ row.getD j 0 := by omega
            have e2 : row.getD j 0 < a.2.1.length := by omega
            rw [w64 (by omega) (by omega)]
            refine (ih (j + 1) (by omega)).mono fun r hr => ?_
            rw [hr, List.all_cons]
            have : goalB a.2.1.length (row.getD j 0) = true := by simp only [goalB, e1, e2, decide_true, Bool.and_self]
            rw [this, Bool.true_and]
          · have : ¬ -1 ≤ row.getD j 0 := by omega
            rw [List.all_cons, goalB]; simp [-List.getD_eq_getElem?_getD, this]
      refine (inner 4 0 (by omega)).mono fun r hr => ?_
      rw [hr, List.all_cons, rowOk, h4]; simp
theorem specAutoOk_ev (a : AutoT) : EvP (fun k => spec_AutoOk k a.1 a.2.1 a.2.2) (fun r => r = autoOk a) := by
  refine EvP.fn (fun k => spec_AutoOk_eq k _ _ _) (EvP.decF (fun h1 => EvP.decF (fun h2 => EvP.notF (fun h3 => EvP.decF (fun h4 => EvP.dec (fun h5 => EvP.now ?_) (fun h5 => ?_)) (fun h => EvP.now ?_)) (fun h => EvP.now ?_)) (fun h => EvP.now ?_)) (fun h => EvP.now ?_))
  · have : ¬ a.1 < a.2.1.length := by omega
    simp [autoOk, this]
  · refine (specAutoOk_loops a (by omega) (by omega) a.2.2.length 0 (by omega)).mono fun r hr => ?_
    have e1 : 1 ≤ a.2.1.length := by omega
    have e2 : a.2.1.length ≤ 6 := by omega
    have e3 : a.2.2.length = a.2.1.length := by omega
    have e4 : 0 ≤ a.1 := by omega
    have e5 : a.1 < a.2.1.length := by omega
    rw [hr]; simp only [autoOk, e1, e2, e3, e4, e5, decide_true, Bool.true_and, List.drop_zero]
  · have : ¬ 0 ≤ a.1 := by omega
    simp [autoOk, this]
  · have : ¬ a.2.2.length = a.2.1.length := by omega
    simp [autoOk, this]
  · have : ¬ a.2.1.length ≤ 6 := by omega
    simp [autoOk, this]
  · have : ¬ 1 ≤ a.2.1.length := by omega
    simp [autoOk, this]
/-! products -/
abbrev PairsT := List (Int × Int)
/-- The place of two places among others, or -1. -/
def fi : PairsT → Int × Int → Int
  | [], _ => -1
  | x :: l, y => if x = y then 0 else (if fi l y < 0 then -1 else fi l y + 1)
theorem fi_range (y : Int × Int) : ∀ l : PairsT, (fi l y = -1 ∧ y ∉ l) ∨ (0 ≤ fi l y ∧ fi l y < l.length ∧ l.getD (fi l y).toNat (0, 0) = y)
  | [] => .inl ⟨rfl, by simp⟩
  | x :: l => by
    unfold fi
    split
    · rename_i h; right; exact ⟨by omega, by simp, by simpa using h⟩
    · rename_i h
      rcases fi_range y l with ⟨h1, h2⟩ | ⟨h1, h2, h3⟩
      · left; rw [h1]; exact ⟨rfl, by simp only [List.mem_cons, not_or]; exact ⟨Ne.symm h, h2⟩⟩
      · right
        have : ¬ fi l y < 0 := by omega
        rw [if_neg this]
        refine ⟨by omega, by simp; omega, ?_⟩
        have e : (fi l y + 1).toNat = (fi l y).toNat + 1 := by omega
        rw [e]; exact h3
theorem fi_step (l : PairsT) (y : Int × Int) (i : Nat) (h : i < l.length) (hd : ¬ l.getD i (0, 0) = y) : fi (l.drop i) y = (if fi (l.drop (i + 1)) y < 0 then -1 else fi (l.drop (i + 1)) y + 1) := by
  rw [drop_cons l i (0, 0) h, fi, if_neg hd]
theorem index_loop (ps : PairsT) (hs : ps.length ≤ 1000) (y : Int × Int) : ∀ (n i : Nat), i + n = ps.length → EvP (fun k => slices_Index_S_2_int_2_int_L26 k ps y (ps.length : Int) (i : Int)) (fun r => r = (if fi (ps.drop i) y < 0 then -1 else fi (ps.drop i) y + i))
  | 0, i, h => by
    refine EvP.fn (fun k => slices_Index_S_2_int_2_int_L26_eq k _ _ _ _) (EvP.decN (by omega) (EvP.now ?_))
    rw [List.drop_eq_nil_of_le (by omega)]; rfl
  | n + 1, i, h => by
    refine EvP.fn (fun k => slices_Index_S_2_int_2_int_L26_eq k _ _ _ _) (EvP.decY (by omega) (EvP.yes (by omega) (EvP.yes (by omega) ?_)))
    rw [Int.toNat_natCast]
    refine EvP.ite (fun h' => EvP.now ?_) (fun h' => ?_)
    · simp only [Bool.and_eq_true, decide_eq_true_eq] at h'
      rw [drop_cons ps i (0, 0) (by omega), fi, if_pos (Prod.ext h'.1.symm h'.2.symm)]
      simp
    · have hne : ¬ ps.getD i (0, 0) = y := fun e => h' (by rw [e]; simp)
      rw [w64 (by omega) (by omega)]
      refine (index_loop ps hs (y.1, y.2) n (i + 1) (by omega)).mono fun r hr => ?_
      have hr' : r = (if fi (ps.drop (i + 1)) y < 0 then -1 else fi (ps.drop (i + 1)) y + ((i + 1 : Nat) : Int)) := hr
      rw [hr', fi_step ps y i (by omega) hne]
      rcases fi_range y (ps.drop (i + 1)) with ⟨h1, _⟩ | ⟨h1, _⟩
      · simp [h1]
      · have : ¬ fi (ps.drop (i + 1)) y < 0 := by omega
        have h2 : ¬ fi (ps.drop (i + 1)) y + 1 < 0 := by omega
        simp only [if_neg this, if_neg h2]; omega
theorem index_ev (ps : PairsT) (hs : ps.length ≤ 1000) (y : Int × Int) : EvP (fun k => slices_Index_S_2_int_2_int k ps y.1 y.2) (fun r => r = fi ps y) :=
  EvP.fn (fun k => slices_Index_S_2_int_2_int_eq k _ _ _) ((index_loop ps hs (y.1, y.2) ps.length 0 (by omega)).mono fun r hr => by
    rw [hr]; rcases fi_range y ps with ⟨h1, _⟩ | ⟨h1, _⟩
    · show (if fi ps y < 0 then (-1 : Int) else fi ps y + (0 : Nat)) = _
      rw [h1]; rfl
    · show (if fi ps y < 0 then (-1 : Int) else fi ps y + (0 : Nat)) = _
      rw [if_neg (by omega)]; simp)
theorem find_loop (ps : PairsT) (hs : ps.length ≤ 1000) (y : Int × Int) : ∀ (n i : Nat), i + n = ps.length → EvP (fun k => spec_l13Find_L26 k ps y (i : Int)) (fun r => r = (if fi (ps.drop i) y < 0 then -1 else fi (ps.drop i) y + i))
  | 0, i, h => by
    refine EvP.fn (fun k => spec_l13Find_L26_eq k _ _ _) (EvP.decN (by omega) (EvP.now ?_))
    rw [List.drop_eq_nil_of_le (by omega)]; rfl
  | n + 1, i, h => by
    refine EvP.fn (fun k => spec_l13Find_L26_eq k _ _ _) (EvP.decY (by omega) (EvP.yes (by omega) (EvP.yes (by omega) ?_)))
    rw [Int.toNat_natCast]
    refine EvP.ite (fun h' => EvP.now ?_) (fun h' => ?_)
    · simp only [Bool.and_eq_true, decide_eq_true_eq] at h'
      rw [drop_cons ps i (0, 0) (by omega), fi, if_pos (Prod.ext h'.1 h'.2)]
      simp
    · have hne : ¬ ps.getD i (0, 0) = y := fun e => h' (by rw [e]; simp)
      rw [w64 (by omega) (by omega)]
      refine (find_loop ps hs (y.1, y.2) n (i + 1) (by omega)).mono fun r hr => ?_
      have hr' : r = (if fi (ps.drop (i + 1)) y < 0 then -1 else fi (ps.drop (i + 1)) y + ((i + 1 : Nat) : Int)) := hr
      rw [hr', fi_step ps y i (by omega) hne]
      rcases fi_range y (ps.drop (i + 1)) with ⟨h1, _⟩ | ⟨h1, _⟩
      · simp [h1]
      · have : ¬ fi (ps.drop (i + 1)) y < 0 := by omega
        have h2 : ¬ fi (ps.drop (i + 1)) y + 1 < 0 := by omega
        simp only [if_neg this, if_neg h2]; omega
theorem find_ev (ps : PairsT) (hs : ps.length ≤ 1000) (y : Int × Int) : EvP (fun k => spec_l13Find k ps y.1 y.2) (fun r => r = fi ps y) :=
  EvP.fn (fun k => spec_l13Find_eq k _ _ _) ((find_loop ps hs (y.1, y.2) ps.length 0 (by omega)).mono fun r hr => by
    rw [hr]; rcases fi_range y ps with ⟨h1, _⟩ | ⟨h1, _⟩
    · show (if fi ps y < 0 then (-1 : Int) else fi ps y + (0 : Nat)) = _
      rw [h1]; rfl
    · show (if fi ps y < 0 then (-1 : Int) else fi ps y + (0 : Nat)) = _
      rw [if_neg (by omega)]; simp)
/-- Where one goes. -/
def goR (a : AutoT) (p : Int) (k : Nat) : Int := (a.2.2.getD p.toNat []).getD k 0
def endR (a : AutoT) (p : Int) : Bool := a.2.1.getD p.toNat false
def cellB (a b : AutoT) (p : Int × Int) (k : Nat) (ps : PairsT) : PairsT × Int :=
  if 0 ≤ goR a p.1 k ∧ 0 ≤ goR b p.2 k then (if fi ps (goR a p.1 k, goR b p.2 k) < 0 then (ps ++ [(goR a p.1 k, goR b p.2 k)], (ps.length : Int)) else (ps, fi ps (goR a p.1 k, goR b p.2 k))) else (ps, -1)
def rowB (a b : AutoT) (p : Int × Int) : Nat → Nat → PairsT → List Int → PairsT × List Int
  | 0, _, ps, row => (ps, row)
  | n + 1, j, ps, row => rowB a b p n (j + 1) (cellB a b p j ps).1 (row ++ [(cellB a b p j ps).2])
def bothB (a b : AutoT) : Nat → Nat → PairsT → List Bool → List (List Int) → PairsT × List Bool × List (List Int)
  | 0, _, ps, es, gs => (ps, es, gs)
  | n + 1, i, ps, es, gs => if i < ps.length then bothB a b n (i + 1) (rowB a b (ps.getD i (0, 0)) 4 0 ps []).1 (es ++ [endR a (ps.getD i (0, 0)).1 && endR b (ps.getD i (0, 0)).2]) (gs ++ [(rowB a b (ps.getD i (0, 0)) 4 0 ps []).2]) else (ps, es, gs)
def wrapB (o : AutoT) : AutoT × Bool := if autoOk o then (o, true) else ((0, [], []), false)
def both (a b : AutoT) : AutoT × Bool := if autoOk a && autoOk b then wrapB (0, (bothB a b 37 0 [(a.1, b.1)] [] []).2) else ((0, [], []), false)
/-- Pairs of places, each once. -/
def PsOk (a b : AutoT) (ps : PairsT) : Prop := ps.Nodup ∧ ∀ p ∈ ps, 0 ≤ p.1 ∧ p.1 < a.2.1.length ∧ 0 ≤ p.2 ∧ p.2 < b.2.1.length
structure OkA (a : AutoT) : Prop where
  n : a.2.1.length ≤ 6
  l : a.2.2.length = a.2.1.length
  b0 : 0 ≤ a.1
  b1 : a.1 < a.2.1.length
  r4 : ∀ r ∈ a.2.2, r.length = 4
  rg : ∀ r ∈ a.2.2, ∀ x ∈ r, -1 ≤ x ∧ x < a.2.1.length
theorem okA {a : AutoT} (h : autoOk a = true) : OkA a := by
  simp only [autoOk, Bool.and_eq_true, decide_eq_true_eq, List.all_eq_true] at h
  obtain ⟨⟨⟨⟨⟨h1, h2⟩, h3⟩, h4⟩, h5⟩, h6⟩ := h
  refine ⟨h2, h3, h4, h5, fun r hr => ?_, fun r hr x hx => ?_⟩
  · have := h6 r hr; simp only [rowOk, Bool.and_eq_true, decide_eq_true_eq] at this; exact this.1
  · have := h6 r hr
    simp only [rowOk, Bool.and_eq_true, decide_eq_true_eq, List.all_eq_true] at this
    have := this.2 x hx
    simp only [goalB, Bool.and_eq_true, decide_eq_true_eq] at this
    exact this
theorem OkA.mid {a : AutoT} (h : OkA a) : Mid a := ⟨by have := h.n; omega, by have := h.n; have := h.l; omega, fun r hr => by rw [h.r4 r hr]; omega⟩
theorem OkA.go {a : AutoT} (h : OkA a) {p : Int} (h0 : 0 ≤ p) (h1 : p < a.2.1.length) {k : Nat} (hk : k < 4) : -1 ≤ goR a p k ∧ goR a p k < a.2.1.length ∧ (a.2.2.getD p.toNat []).length = 4 := by
  have hm : a.2.2.getD p.toNat [] ∈ a.2.2 := getD_mem _ _ _ (by have := h.l; omega)
  have h4 := h.r4 _ hm
  have := h.rg _ hm _ (getD_mem _ k 0 (by omega))
  exact ⟨this.1, this.2, h4⟩
theorem nodup_lt : ∀ (n : Nat) (l : List Nat), l.Nodup → (∀ x ∈ l, x < n) → l.length ≤ n
  | 0, l, _, h => by
    cases l with
    | nil => simp
    | cons x l => exact absurd (h x (by simp)) (Nat.not_lt_zero _)
  | n + 1, l, hn, h => by
    by_cases hm : n ∈ l
    · have h1 := nodup_lt n (l.erase n) (hn.erase n) (fun x hx => by
        have := (hn.mem_erase_iff.1 hx)
        have := h x this.2
        omega)
      rw [List.length_erase_of_mem hm] at h1
      omega
    · have := nodup_lt n l hn (fun x hx => by
        have h2 := h x hx
        have : x ≠ n := fun e => hm (e ▸ hx)
        omega)
      omega
theorem PsOk.len {a b : AutoT} (ha : OkA a) (hb : OkA b) {ps : PairsT} (h : PsOk a b ps) : ps.length ≤ 36 := by
  have hn := ha.n
  have hm := hb.n
  have h1 : (ps.map fun p => p.1.toNat * 6 + p.2.toNat).Nodup := by
    refine List.pairwise_map.2 (h.1.imp_of_mem fun {p q} hp hq hne e => hne ?_)
    have h1 := h.2 p hp
    have h2 := h.2 q hq
    exact Prod.ext (by omega) (by omega)
  have := nodup_lt 36 _ h1 (fun x hx => by
    obtain ⟨p, hp, rfl⟩ := List.mem_map.1 hx
    have h1 := h.2 p hp
    omega)
  simpa using this
theorem cell_ok {a b : AutoT} (ha : OkA a) (hb : OkA b) {ps : PairsT} (h : PsOk a b ps) {p : Int × Int} (hp : 0 ≤ p.1 ∧ p.1 < a.2.1.length ∧ 0 ≤ p.2 ∧ p.2 < b.2.1.length) {k : Nat} (hk : k < 4) :
    PsOk a b (cellB a b p k ps).1 := by
  unfold cellB
  split
  · rename_i h0
    split
    · rename_i hf
      have hnm : (goR a p.1 k, goR b p.2 k) ∉ ps := by
        rcases fi_range (goR a p.1 k, goR b p.2 k) ps with ⟨_, h2⟩ | ⟨h1, _⟩
        · exact h2
        · omega
      have g1 := ha.go hp.1 hp.2.1 hk
      have g2 := hb.go hp.2.2.1 hp.2.2.2 hk
      refine ⟨?_, fun q hq => ?_⟩
      · exact List.nodup_append.2 ⟨h.1, by simp, fun x hx y hy => by rw [List.mem_singleton.1 hy]; exact fun e => hnm (e ▸ hx)⟩
      · rcases List.mem_append.1 hq with hq | hq
        · exact h.2 q hq
        · rw [List.mem_singleton.1 hq]; exact ⟨h0.1, g1.2.1, h0.2, g2.2.1⟩
    · exact h
  · exact h
theorem row_ok {a b : AutoT} (ha : OkA a) (hb : OkA b) {p : Int × Int} (hp : 0 ≤ p.1 ∧ p.1 < a.2.1.length ∧ 0 ≤ p.2 ∧ p.2 < b.2.1.length) : ∀ (n j : Nat) {ps : PairsT} {row : List Int}, j + n ≤ 4 → PsOk a b ps → PsOk a b (rowB a b p n j ps row).1
  | 0, j, ps, row, _, h => h
  | n + 1, j, ps, row, hj, h => row_ok ha hb hp n (j + 1) (by omega) (cell_ok ha hb h hp (by omega))
theorem implRow_ev {a b : AutoT} (ha : OkA a) (hb : OkA b) {Q : AutoT × Bool → Prop} {p : Int × Int} (hp : 0 ≤ p.1 ∧ p.1 < a.2.1.length ∧ 0 ≤ p.2 ∧ p.2 < b.2.1.length) (x y : AutoT) (i : Nat) (hi : i ≤ 40) (hy : y.2.2.length ≤ 40) : ∀ (n j : Nat) {ps : PairsT} {row : List Int}, j + n = 4 → row.length = j → PsOk a b ps →
    EvP (fun k => impl_AutoBoth_L250 k a b x (y.1, y.2.1, y.2.2 ++ [(rowB a b p n j ps row).2]) (rowB a b p n j ps row).1 ((i + 1 : Nat) : Int)) Q → EvP (fun k => impl_AutoBoth_L256314 k a b x y ps (i : Int) p row (j : Int)) Q
  | 0, j, ps, row, hj, hr, h, H => by
    refine EvP.fn (fun k => impl_AutoBoth_L256314_eq k _ _ _ _ _ _ _ _ _) (EvP.decN (by omega) (EvP.yes (mE (by simp; omega)) ?_))
    rw [w64 (by omega) (by omega)]
    exact H
  | n + 1, j, ps, row, hj, hr, h, H => by
    have g1 := ha.go hp.1 hp.2.1 (k := j) (by omega)
    have g2 := hb.go hp.2.2.1 hp.2.2.2 (k := j) (by omega)
    have hps := h.len ha hb
    refine EvP.fn (fun k => impl_AutoBoth_L256314_eq k _ _ _ _ _ _ _ _ _) (EvP.decY (by omega) ?_)
    simp only [Int.toNat_natCast]
    have l1 := ha.l
    have l2 := hb.l
    refine EvP.yes hp.1 (EvP.yes (by omega) (EvP.yes (by omega) (EvP.yes (by rw [g1.2.2]; omega) (EvP.yes hp.2.2.1 (EvP.yes (by omega) (EvP.yes (by omega) (EvP.yes (by rw [g2.2.2]; omega) ?_)))))))
    show EvP (fun k => ifE (decide (0 ≤ goR a p.1 j) = true) (ifE (decide (0 ≤ goR b p.2 j) = true) ((slices_Index_S_2_int_2_int k ps (goR a p.1 j) (goR b p.2 j)).bind _) _) _) Q
    have next : ∀ {ps' : PairsT} {v : Int}, cellB a b p j ps = (ps', v) → EvP (fun k => impl_AutoBoth_L256314 k a b x y ps' (i : Int) p (row ++ [v]) ((j + 1 : Nat) : Int)) Q := fun {ps' v} e => by
      have hc := cell_ok ha hb h hp (k := j) (by omega)
      rw [e] at hc
      refine implRow_ev ha hb hp x y i hi hy n (j + 1) (by omega) (by simp; omega) hc ?_
      unfold rowB at H
      rw [e] at H
      exact H
    have ew : IntKind.i64.wrap ((j : Int) + 1) = ((j + 1 : Nat) : Int) := by rw [w64 (by omega) (by omega)]; omega
    rw [ew]
    refine EvP.dec (fun c1 => EvP.dec (fun c2 => EvP.bind (index_ev ps (by omega) (goR a p.1 j, goR b p.2 j)) fun r hr => ?_) (fun c2 => ?_)) (fun c1 => ?_)
    · subst hr
      refine EvP.dec (fun c3 => EvP.yes (mE (by simp; omega)) (EvP.yes (mE (by simp; omega)) ?_)) (fun c3 => EvP.yes (mE (by simp; omega)) ?_)
      · exact next (by unfold cellB; rw [if_pos ⟨c1, c2⟩, if_pos c3]; rfl)
      · exact next (by unfold cellB; rw [if_pos ⟨c1, c2⟩, if_neg c3])
    · exact EvP.yes (mE (by simp; omega)) (next (by unfold cellB; rw [if_neg (fun h => c2 h.2)]))
    · exact EvP.yes (mE (by simp; omega)) (next (by unfold cellB; rw [if_neg (fun h => c1 h.1)]))
theorem implBoth_loop {a b : AutoT} (ha : OkA a) (hb : OkA b) (x : AutoT) : ∀ (n i : Nat) {ps : PairsT} {es : List Bool} {gs : List (List Int)}, 37 ≤ n + i → i ≤ ps.length → PsOk a b ps → es.length = i → gs.length = i → (∀ r ∈ gs, r.length ≤ 1000) →
    EvP (fun k => impl_AutoBoth_L250 k a b x (0, es, gs) ps (i : Int)) (fun r => r = wrapB (0, (bothB a b n i ps es gs).2))
  | 0, i, ps, es, gs, hn, hi, h, _, _, _ => by have := h.len ha hb; omega
  | n + 1, i, ps, es, gs, hn, hi, h, he, hg, hgr => by
    have hps := h.len ha hb
    refine EvP.fn (fun k => impl_AutoBoth_L250_eq k _ _ _ _ _ _) (EvP.dec (fun c => ?_) (fun c => ?_))
    · have hlt : i < ps.length := by omega
      have hm := h.2 _ (getD_mem ps i (0, 0) hlt)
      have l1 := ha.l
      have l2 := hb.l
      simp only [Int.toNat_natCast]
      have go : ∀ e, e = (endR a (ps.getD i (0, 0)).1 && endR b (ps.getD i (0, 0)).2) → EvP (fun k => impl_AutoBoth_L256314 k a b x (0, es ++ [e], gs) ps (i : Int) (ps.getD i (0, 0)) [] (0 : Int)) (fun r => r = wrapB (0, (bothB a b (n + 1) i ps es gs).2)) := fun e he' => by
        refine implRow_ev ha hb hm x (0, es ++ [e], gs) i (by omega) (by show gs.length ≤ 40; omega) 4 0 (by omega) rfl h ?_
        have hrow : ∀ (n j : Nat) (ps : PairsT) (row : List Int), (rowB a b (ps.getD i (0, 0)) n j ps row).2.length = row.length + n := by
          intro n
          have key : ∀ (p : Int × Int) (n j : Nat) (ps : PairsT) (row : List Int), (rowB a b p n j ps row).2.length = row.length + n := by
            intro p n
            induction n with
            | zero => intro j ps row; rfl
            | succ n ih => intro j ps row; rw [rowB, ih]; simp; omega
          exact fun j ps row => key _ n j ps row
        have mono : ∀ (p : Int × Int) (n j : Nat) (ps : PairsT) (row : List Int), ps.length ≤ (rowB a b p n j ps row).1.length := by
          intro p n
          induction n with
          | zero => intro j ps row; exact Nat.le_refl _
          | succ n ih =>
            intro j ps row
            refine Nat.le_trans ?_ (ih (j + 1) _ _)
            unfold cellB
            split
            · split
              · simp
              · exact Nat.le_refl _
            · exact Nat.le_refl _
        have := implBoth_loop ha hb x n (i + 1) (es := es ++ [e]) (gs := gs ++ [(rowB a b (ps.getD i (0, 0)) 4 0 ps []).2]) (by omega) (Nat.le_trans (by omega) (mono _ 4 0 ps [])) (row_ok ha hb hm 4 0 (by omega) h (row := [])) (by simp; omega) (by simp; omega) (fun r hr => by
          rcases List.mem_append.1 hr with hr | hr
          · exact hgr r hr
          · rw [List.mem_singleton.1 hr, hrow]; simp)
        refine this.mono fun r hr => ?_
        rw [hr, bothB, if_pos hlt, he']
      refine EvP.yes (by omega) (EvP.yes c (EvP.yes hm.1 (EvP.yes hm.2.1 (EvP.ite (fun h1 => EvP.yes hm.2.2.1 (EvP.yes hm.2.2.2 (EvP.yes (mE (by simp; omega)) (go _ ?_)))) (fun h1 => EvP.yes (mE (by simp; omega)) (go _ ?_))))))
      · simp only [endR, h1, Bool.true_and]
      · have h1 : a.2.1.getD (ps.getD i (0, 0)).1.toNat false = false := by simpa using h1
        simp only [endR, h1, Bool.false_and]
    · have hge : ¬ i < ps.length := by omega
      refine EvP.bind (implAutoOk_ev (0, es, gs) ⟨by show es.length ≤ 1000; omega, by show gs.length ≤ 1000; omega, hgr⟩) fun r hr => ?_
      subst hr
      rw [bothB, if_neg hge]
      unfold wrapB
      cases hc : autoOk (0, es, gs) with
      | false => exact EvP.yes rfl (EvP.now (by simp))
      | true => exact EvP.no (by simp) (EvP.now (by simp))
theorem start_ok {a b : AutoT} (ha : OkA a) (hb : OkA b) : PsOk a b [(a.1, b.1)] :=
  ⟨by simp, fun p hp => by rw [List.mem_singleton.1 hp]; exact ⟨ha.b0, ha.b1, hb.b0, hb.b1⟩⟩
theorem implBoth_ev (a b : AutoT) (ha : Mid a) (hb : Mid b) : EvP (fun k => impl_AutoBoth k a.1 a.2.1 a.2.2 b.1 b.2.1 b.2.2) (fun r => r = both a b) := by
  refine EvP.fn (fun k => impl_AutoBoth_eq k _ _ _ _ _ _) (EvP.bind (implAutoOk_ev a ha) fun r hr => ?_)
  subst hr
  cases hc : autoOk a with
  | false => exact EvP.no (by simp) (EvP.now (by unfold both; rw [hc]; rfl))
  | true =>
    refine EvP.yes rfl (EvP.bind (implAutoOk_ev b hb) fun r hr => ?_)
    subst hr
    cases hd : autoOk b with
    | false => exact EvP.yes rfl (EvP.now (by unfold both; rw [hc, hd]; rfl))
    | true =>
      refine EvP.no (by simp) ?_
      refine (implBoth_loop (okA hc) (okA hd) (0, [], []) 37 0 (by omega) (by simp) (start_ok (okA hc) (okA hd)) rfl rfl (fun r hr => by simp at hr)).mono fun r hr => ?_
      rw [hr]; unfold both; rw [hc, hd]; rfl
theorem specRow_ev {a b : AutoT} (ha : OkA a) (hb : OkA b) {Q : AutoT × Bool → Prop} (x y : AutoT) (i : Nat) (hi : i ≤ 40) : ∀ (n j : Nat) {ps : PairsT} {row : List Int}, j + n = 4 → row.length = j → i < ps.length → PsOk a b ps →
    EvP (fun k => spec_AutoBoth_L64074 k a b x (rowB a b (ps.getD i (0, 0)) n j ps row).1 y (i : Int) (rowB a b (ps.getD i (0, 0)) n j ps row).2 (4 : Int)) Q → EvP (fun k => spec_AutoBoth_L64074 k a b x ps y (i : Int) row (j : Int)) Q
  | 0, j, ps, row, hj, hr, hlt, h, H => by
    obtain rfl : j = 4 := by omega
    exact H
  | n + 1, j, ps, row, hj, hr, hlt, h, H => by
    have hp := h.2 _ (getD_mem ps i (0, 0) hlt)
    have hps := h.len ha hb
    have l1 := ha.l
    have l2 := hb.l
    generalize hpd : ps.getD i (0, 0) = p at hp H
    have g1 := ha.go hp.1 hp.2.1 (k := j) (by omega)
    have g2 := hb.go hp.2.2.1 hp.2.2.2 (k := j) (by omega)
    refine EvP.fn (fun k => spec_AutoBoth_L64074_eq k _ _ _ _ _ _ _ _) (EvP.decY (by omega) ?_)
    simp only [Int.toNat_natCast, hpd]
    refine EvP.yes (by omega) (EvP.yes (by omega) (EvP.yes hp.1 (EvP.yes (by omega) (EvP.yes (by omega) (EvP.yes (by rw [g1.2.2]; omega) (EvP.yes (by omega) (EvP.yes (by omega) (EvP.yes hp.2.2.1 (EvP.yes (by omega) (EvP.yes (by omega) (EvP.yes (by rw [g2.2.2]; omega) ?_)))))))))))
    show EvP (fun k => ifE (decide (goR a p.1 j < 0) = false) (ifE (decide (goR b p.2 j < 0) = true) _ ((spec_l13Find k ps (goR a p.1 j) (goR b p.2 j)).bind _)) _) Q
    have next : ∀ {ps' : PairsT} {v : Int}, cellB a b p j ps = (ps', v) → ps'.getD i (0, 0) = p → i < ps'.length → EvP (fun k => spec_AutoBoth_L64074 k a b x ps' y (i : Int) (row ++ [v]) ((j + 1 : Nat) : Int)) Q := fun {ps' v} e e2 e3 => by
      have hc := cell_ok ha hb h hp (k := j) (by omega)
      rw [e] at hc
      refine specRow_ev ha hb x y i hi n (j + 1) (by omega) (by simp; omega) e3 hc ?_
      unfold rowB at H
      rw [e] at H
      rw [e2]; exact H
    have ew : IntKind.i64.wrap ((j : Int) + 1) = ((j + 1 : Nat) : Int) := by rw [w64 (by omega) (by omega)]; omega
    have fin : ∀ {ps' : PairsT} {v : Int}, ps'.length ≤ 40 → fi ps' (goR a p.1 j, goR b p.2 j) = v → cellB a b p j ps = (ps', v) → ps'.getD i (0, 0) = p → i < ps'.length →
        EvP (fun k => spec_AutoBoth_L8201511 k a b x ps' y (i : Int) row (j : Int) (goR a p.1 j, goR b p.2 j)) Q := fun {ps' v} hl hv e e2 e3 => by
      refine EvP.fn (fun k => spec_AutoBoth_L8201511_eq k _ _ _ _ _ _ _ _ _) (EvP.bind (find_ev ps' (by omega) (goR a p.1 j, goR b p.2 j)) fun r hr => ?_)
      subst hr
      refine EvP.yes (mE (by simp; omega)) ?_
      rw [ew, hv]
      exact next e e2 e3
    rw [ew]
    refine EvP.decF (fun c1 => EvP.dec (fun c2 => ?_) (fun c2 => EvP.bind (find_ev ps (by omega) (goR a p.1 j, goR b p.2 j)) fun r hr => ?_)) (fun c1 => ?_)
    · exact EvP.yes (mE (by simp; omega)) (next (by unfold cellB; rw [if_neg (fun h => by omega)]) hpd hlt)
    · subst hr
      refine EvP.dec (fun c3 => EvP.yes (mE (by simp; omega)) ?_) (fun c3 => ?_)
      · refine fin (v := (ps.length : Int)) (by simp; omega) ?_ (by unfold cellB; rw [if_pos ⟨by omega, by omega⟩, if_pos c3]; rfl) ?_ (by simp; omega)
        · have hnm : (goR a p.1 j, goR b p.2 j) ∉ ps := by
            rcases fi_range (goR a p.1 j, goR b p.2 j) ps with ⟨_, h2⟩ | ⟨h1, _⟩
            · exact h2
            · omega
          have key : ∀ (l : PairsT) (z : Int × Int), z ∉ l → fi (l ++ [z]) z = l.length := by
            intro l z
            induction l with
            | nil => intro _; simp [fi]
            | cons q l ih =>
              intro hz
              simp only [List.mem_cons, not_or] at hz
              rw [List.cons_append, fi, if_neg (Ne.symm hz.1), ih hz.2, if_neg (by omega)]
              simp
          exact key ps _ hnm
        · rw [List.getD_eq_getElem?_getD, List.getElem?_append_left hlt, ← List.getD_eq_getElem?_getD]; exact hpd
      · exact fin (by omega) rfl (by unfold cellB; rw [if_pos ⟨by omega, by omega⟩, if_neg c3]) hpd hlt
    · exact EvP.yes (mE (by simp; omega)) (next (by unfold cellB; rw [if_neg (fun h => by omega)]) hpd hlt)
theorem cell_pre (a b : AutoT) (p : Int × Int) (k : Nat) (ps : PairsT) : ∃ t, (cellB a b p k ps).1 = ps ++ t := by
  unfold cellB
  split
  · split
    · exact ⟨_, rfl⟩
    · exact ⟨[], by simp⟩
  · exact ⟨[], by simp⟩
theorem row_pre (a b : AutoT) (p : Int × Int) : ∀ (n j : Nat) (ps : PairsT) (row : List Int), ∃ t, (rowB a b p n j ps row).1 = ps ++ t
  | 0, j, ps, row => ⟨[], by simp [rowB]⟩
  | n + 1, j, ps, row => by
    obtain ⟨t, ht⟩ := cell_pre a b p j ps
    obtain ⟨t', ht'⟩ := row_pre a b p n (j + 1) (cellB a b p j ps).1 (row ++ [(cellB a b p j ps).2])
    exact ⟨t ++ t', by rw [rowB, ht', ht, List.append_assoc]⟩
theorem row_len (a b : AutoT) (p : Int × Int) : ∀ (n j : Nat) (ps : PairsT) (row : List Int), (rowB a b p n j ps row).2.length = row.length + n
  | 0, j, ps, row => rfl
  | n + 1, j, ps, row => by rw [rowB, row_len]; simp; omega
theorem getD_pre {α : Type} (l t : List α) (i : Nat) (d : α) (h : i < l.length) : (l ++ t).getD i d = l.getD i d := by
  rw [List.getD_eq_getElem?_getD, List.getElem?_append_left h, ← List.getD_eq_getElem?_getD]
theorem specBoth_loop {a b : AutoT} (ha : OkA a) (hb : OkA b) (x : AutoT) : ∀ (n i : Nat) {ps : PairsT} {es : List Bool} {gs : List (List Int)}, 37 ≤ n + i → i ≤ ps.length → PsOk a b ps → es.length = i → gs.length = i →
    EvP (fun k => spec_AutoBoth_L250 k a b x ps (0, es, gs) (i : Int)) (fun r => r = wrapB (0, (bothB a b n i ps es gs).2))
  | 0, i, ps, es, gs, hn, hi, h, _, _ => by have := h.len ha hb; omega
  | n + 1, i, ps, es, gs, hn, hi, h, he, hg => by
    have hps := h.len ha hb
    refine EvP.fn (fun k => spec_AutoBoth_L250_eq k _ _ _ _ _ _) (EvP.dec (fun c => ?_) (fun c => ?_))
    · have hlt : i < ps.length := by omega
      have l1 := ha.l
      have l2 := hb.l
      refine specRow_ev ha hb x (0, es, gs) i (by omega) 4 0 (by omega) rfl hlt h ?_
      have hm := h.2 _ (getD_mem ps i (0, 0) hlt)
      have hro := row_ok ha hb hm 4 0 (by omega) h (row := [])
      obtain ⟨t, ht⟩ := row_pre a b (ps.getD i (0, 0)) 4 0 ps []
      have hg2 : (rowB a b (ps.getD i (0, 0)) 4 0 ps []).1.getD i (0, 0) = ps.getD i (0, 0) := by rw [ht]; exact getD_pre _ _ _ _ hlt
      have hl2 : ps.length ≤ (rowB a b (ps.getD i (0, 0)) 4 0 ps []).1.length := by rw [ht]; simp
      have hro36 := hro.len ha hb
      refine EvP.fn (fun k => spec_AutoBoth_L64074_eq k _ _ _ _ _ _ _ _) (EvP.decN (by omega) ?_)
      simp only [Int.toNat_natCast, hg2]
      have ew : IntKind.i64.wrap ((i : Int) + 1) = ((i + 1 : Nat) : Int) := by rw [w64 (by omega) (by omega)]; omega
      rw [ew]
      have go : ∀ e, e = (endR a (ps.getD i (0, 0)).1 && endR b (ps.getD i (0, 0)).2) → EvP (fun k => spec_AutoBoth_L250 k a b x (rowB a b (ps.getD i (0, 0)) 4 0 ps []).1 (0, es ++ [e], gs ++ [(rowB a b (ps.getD i (0, 0)) 4 0 ps []).2]) ((i + 1 : Nat) : Int)) (fun r => r = wrapB (0, (bothB a b (n + 1) i ps es gs).2)) := fun e he' => by
        refine (specBoth_loop ha hb x n (i + 1) (by omega) (by omega) hro (by simp; omega) (by simp; omega)).mono fun r hr => ?_
        rw [hr, bothB, if_pos hlt, he']
      refine EvP.yes (by omega) (EvP.yes (by omega) (EvP.yes hm.1 (EvP.yes hm.2.1 (EvP.ite (fun h1 => EvP.yes (by omega) (EvP.yes (by omega) (EvP.yes hm.2.2.1 (EvP.yes hm.2.2.2 (EvP.yes (mE (by simp; omega)) (EvP.yes (mE (by simp; omega)) (go _ ?_))))))) (fun h1 => EvP.yes (mE (by simp; omega)) (EvP.yes (mE (by simp; omega)) (go _ ?_)))))))
      · simp only [endR, h1, Bool.true_and]
      · have h1 : a.2.1.getD (ps.getD i (0, 0)).1.toNat false = false := by simpa using h1
        simp only [endR, h1, Bool.false_and]
    · have hge : ¬ i < ps.length := by omega
      refine EvP.bind (specAutoOk_ev (0, es, gs)) fun r hr => ?_
      subst hr
      rw [bothB, if_neg hge]
      unfold wrapB
      cases hc : autoOk (0, es, gs) with
      | false => exact EvP.yes rfl (EvP.now (by simp))
      | true => exact EvP.no (by simp) (EvP.now (by simp))
theorem specBoth_ev (a b : AutoT) : EvP (fun k => spec_AutoBoth k a.1 a.2.1 a.2.2 b.1 b.2.1 b.2.2) (fun r => r = both a b) := by
  refine EvP.fn (fun k => spec_AutoBoth_eq k _ _ _ _ _ _) (EvP.bind (specAutoOk_ev a) fun r hr => ?_)
  subst hr
  cases hc : autoOk a with
  | false => exact EvP.no (by simp) (EvP.now (by unfold both; rw [hc]; rfl))
  | true =>
    refine EvP.yes rfl (EvP.bind (specAutoOk_ev b) fun r hr => ?_)
    subst hr
    cases hd : autoOk b with
    | false => exact EvP.yes rfl (EvP.now (by unfold both; rw [hc, hd]; rfl))
    | true =>
      refine EvP.no (by simp) ?_
      refine (specBoth_loop (okA hc) (okA hd) (0, [], []) 37 0 (by omega) (by simp) (start_ok (okA hc) (okA hd)) rfl rfl).mono fun r hr => ?_
      rw [hr]; unfold both; rw [hc, hd]; rfl
/-! what a product takes in -/
def walkA (a : AutoT) : Int → List UInt8 → Bool
  | p, [] => endR a p
  | p, c :: s => if goR a p (c.toNat - 97) < 0 then false else walkA a (goR a p (c.toNat - 97)) s
def isA (a : AutoT) (s : List UInt8) : Bool := autoOk a && (textOk s && walkA a a.1 s)
/-- A row that tells where two go. -/
def RowG (a b : AutoT) (ps : PairsT) (p : Int × Int) (row : List Int) (n : Nat) : Prop :=
  ∀ k, k < n → if 0 ≤ goR a p.1 k ∧ 0 ≤ goR b p.2 k then (∃ j : Nat, j < ps.length ∧ row.getD k 0 = j ∧ ps.getD j (0, 0) = (goR a p.1 k, goR b p.2 k)) else row.getD k 0 = -1
theorem RowG.more {a b : AutoT} {ps : PairsT} {p : Int × Int} {row : List Int} {n : Nat} (h : RowG a b ps p row n) (t : PairsT) : RowG a b (ps ++ t) p row n := fun k hk => by
  have := h k hk
  split
  · rename_i hc
    rw [if_pos hc] at this
    obtain ⟨j, h1, h2, h3⟩ := this
    exact ⟨j, by simp; omega, h2, by rw [getD_pre _ _ _ _ h1]; exact h3⟩
  · rename_i hc
    rw [if_neg hc] at this; exact this
theorem rowB_ok (a b : AutoT) (p : Int × Int) : ∀ (n j : Nat) {ps : PairsT} {row : List Int}, row.length = j → RowG a b ps p row j → RowG a b (rowB a b p n j ps row).1 p (rowB a b p n j ps row).2 (j + n)
  | 0, j, ps, row, hr, h => h
  | n + 1, j, ps, row, hr, h => by
    rw [rowB]
    obtain ⟨t, ht⟩ := cell_pre a b p j ps
    have e : j + (n + 1) = j + 1 + n := by omega
    rw [e]
    refine rowB_ok a b p n (j + 1) (by simp [hr]) (fun k hk => ?_)
    by_cases hkj : k < j
    · have := (h.more t) k hkj
      rw [ht, getD_pre _ _ _ _ (by omega)]
      exact this
    · obtain rfl : k = j := by omega
      have e2 : (row ++ [(cellB a b p k ps).2]).getD k 0 = (cellB a b p k ps).2 := by
        rw [List.getD_eq_getElem?_getD, List.getElem?_append_right (by omega)]; simp [hr]
      rw [e2]
      by_cases hc : 0 ≤ goR a p.1 k ∧ 0 ≤ goR b p.2 k
      · rw [if_pos hc]
        by_cases hf : fi ps (goR a p.1 k, goR b p.2 k) < 0
        · have e3 : cellB a b p k ps = (ps ++ [(goR a p.1 k, goR b p.2 k)], (ps.length : Int)) := by unfold cellB; rw [if_pos hc, if_pos hf]
          rw [e3]
          exact ⟨ps.length, by simp, rfl, by rw [List.getD_eq_getElem?_getD, List.getElem?_append_right (Nat.le_refl _)]; simp⟩
        · have e3 : cellB a b p k ps = (ps, fi ps (goR a p.1 k, goR b p.2 k)) := by unfold cellB; rw [if_pos hc, if_neg hf]
          rw [e3]
          rcases fi_range (goR a p.1 k, goR b p.2 k) ps with ⟨h3, _⟩ | ⟨h3, h4, h5⟩
          · omega
          · exact ⟨(fi ps (goR a p.1 k, goR b p.2 k)).toNat, by show _ < ps.length; omega, by show fi ps _ = _; omega, h5⟩
      · rw [if_neg hc]
        have e3 : cellB a b p k ps = (ps, -1) := by unfold cellB; rw [if_neg hc]
        rw [e3]
structure GoodB (a b : AutoT) (ps : PairsT) (es : List Bool) (gs : List (List Int)) (i : Nat) : Prop where
  e : es.length = i
  g : gs.length = i
  ends : ∀ t, t < i → es.getD t false = (endR a (ps.getD t (0, 0)).1 && endR b (ps.getD t (0, 0)).2)
  rows : ∀ t, t < i → RowG a b ps (ps.getD t (0, 0)) (gs.getD t []) 4
theorem bothB_ok (a b : AutoT) : ∀ (n i : Nat) {ps : PairsT} {es : List Bool} {gs : List (List Int)}, i ≤ ps.length → GoodB a b ps es gs i →
    ∃ i', i' ≤ (bothB a b n i ps es gs).1.length ∧ GoodB a b (bothB a b n i ps es gs).1 (bothB a b n i ps es gs).2.1 (bothB a b n i ps es gs).2.2 i' ∧ (37 ≤ n + i → (bothB a b n i ps es gs).1.length ≤ 36 → i' = (bothB a b n i ps es gs).1.length) ∧ ∃ t, (bothB a b n i ps es gs).1 = ps ++ t
  | 0, i, ps, es, gs, hi, h => ⟨i, hi, h, fun h1 h2 => by have : ps.length ≤ 36 := h2; omega, [], by simp [bothB]⟩
  | n + 1, i, ps, es, gs, hi, h => by
    unfold bothB
    split
    · rename_i hlt
      obtain ⟨t, ht⟩ := row_pre a b (ps.getD i (0, 0)) 4 0 ps []
      have hrow := rowB_ok a b (ps.getD i (0, 0)) 4 0 (ps := ps) (row := []) rfl (fun k hk => absurd hk (Nat.not_lt_zero _))
      have hG : GoodB a b (rowB a b (ps.getD i (0, 0)) 4 0 ps []).1 (es ++ [endR a (ps.getD i (0, 0)).1 && endR b (ps.getD i (0, 0)).2]) (gs ++ [(rowB a b (ps.getD i (0, 0)) 4 0 ps []).2]) (i + 1) := by
        have he := h.e
        have hg := h.g
        refine ⟨by simp [he], by simp [hg], fun u hu => ?_, fun u hu => ?_⟩
        · rw [ht]
          by_cases hui : u < i
          · rw [getD_pre _ _ _ _ (by omega), getD_pre _ _ _ _ (by omega)]; exact h.ends u hui
          · obtain rfl : u = i := by omega
            rw [getD_pre ps t u _ hlt]
            rw [List.getD_eq_getElem?_getD, List.getElem?_append_right (by omega)]; simp [he]
        · by_cases hui : u < i
          · rw [ht, getD_pre _ _ _ _ (by omega), getD_pre _ _ _ _ (by omega)]; exact (h.rows u hui).more t
          · obtain rfl : u = i := by omega
            have e1 : (rowB a b (ps.getD u (0, 0)) 4 0 ps []).1.getD u (0, 0) = ps.getD u (0, 0) := by rw [ht]; exact getD_pre _ _ _ _ hlt
            have e2 : (gs ++ [(rowB a b (ps.getD u (0, 0)) 4 0 ps []).2]).getD u [] = (rowB a b (ps.getD u (0, 0)) 4 0 ps []).2 := by
              rw [List.getD_eq_getElem?_getD, List.getElem?_append_right (by omega)]; simp [hg]
            rw [e1, e2]; exact hrow
      obtain ⟨i', g1, g2, g3, t', g4⟩ := bothB_ok a b n (i + 1) (by rw [ht]; simp; omega) hG
      exact ⟨i', g1, g2, fun h1 h2 => g3 (by omega) h2, t ++ t', by rw [g4, ht, List.append_assoc]⟩
    · rename_i hge
      exact ⟨i, hi, h, fun _ _ => by show i = ps.length; omega, [], by simp⟩
theorem psok_bothB {a b : AutoT} (ha : OkA a) (hb : OkA b) : ∀ (n i : Nat) {ps : PairsT} {es : List Bool} {gs : List (List Int)}, PsOk a b ps → PsOk a b (bothB a b n i ps es gs).1
  | 0, i, ps, es, gs, h => h
  | n + 1, i, ps, es, gs, h => by
    unfold bothB
    split
    · rename_i hlt
      exact psok_bothB ha hb n (i + 1) (row_ok ha hb (h.2 _ (getD_mem ps i (0, 0) hlt)) 4 0 (by omega) h)
    · exact h
theorem both_walk {a b : AutoT} {ps : PairsT} {es : List Bool} {gs : List (List Int)} (H : GoodB a b ps es gs ps.length) (x : Int) : ∀ (s : List UInt8) (i : Nat), s.all small = true → i < ps.length →
    walkA (x, es, gs) (i : Int) s = (walkA a (ps.getD i (0, 0)).1 s && walkA b (ps.getD i (0, 0)).2 s)
  | [], i, _, hi => by
    have := H.ends i hi
    simp only [walkA]
    rw [← this]; simp [endR]
  | c :: s, i, hs, hi => by
    simp only [List.all_cons, Bool.and_eq_true] at hs
    have hk : c.toNat - 97 < 4 := by
      have := hs.1
      simp only [small, Bool.and_eq_true, decide_eq_true_eq] at this
      omega
    have hrow := H.rows i hi (c.toNat - 97) hk
    simp only [walkA]
    have e : goR (x, es, gs) (i : Int) (c.toNat - 97) = (gs.getD i []).getD (c.toNat - 97) 0 := by simp [goR]
    rw [e]
    by_cases hc : 0 ≤ goR a (ps.getD i (0, 0)).1 (c.toNat - 97) ∧ 0 ≤ goR b (ps.getD i (0, 0)).2 (c.toNat - 97)
    · rw [if_pos hc] at hrow
      obtain ⟨j, h1, h2, h3⟩ := hrow
      rw [h2, if_neg (by omega), if_neg (by omega), if_neg (by omega), both_walk H x s j hs.2 h1, h3]
    · rw [if_neg hc] at hrow
      rw [hrow, if_pos (by omega)]
      by_cases h0 : goR a (ps.getD i (0, 0)).1 (c.toNat - 97) < 0
      · rw [if_pos h0]; rfl
      · rw [if_neg h0, if_pos (by omega)]; simp
theorem both_is {a b : AutoT} (h : (both a b).2 = true) (s : List UInt8) : autoOk a = true ∧ autoOk b = true ∧ autoOk (both a b).1 = true ∧ isA (both a b).1 s = (isA a s && isA b s) := by
  unfold both at h ⊢
  split at h
  case isFalse => cases h
  rename_i hab
  simp only [Bool.and_eq_true] at hab
  unfold wrapB at h
  split at h
  case isFalse => cases h
  rename_i hok
  rw [if_pos (by simp [hab])]
  unfold wrapB
  rw [if_pos hok]
  refine ⟨hab.1, hab.2, hok, ?_⟩
  have ha := okA hab.1
  have hb := okA hab.2
  obtain ⟨i', g1, g2, g3, t, g4⟩ := bothB_ok a b 37 0 (ps := [(a.1, b.1)]) (es := []) (gs := []) (by simp) ⟨rfl, rfl, fun t ht => absurd ht (Nat.not_lt_zero _), fun t ht => absurd ht (Nat.not_lt_zero _)⟩
  have hlen := (psok_bothB ha hb 37 0 (es := []) (gs := []) (start_ok ha hb)).len ha hb
  have e := g3 (by omega) hlen
  rw [e] at g2
  have hpos : 0 < (bothB a b 37 0 [(a.1, b.1)] [] []).1.length := by rw [g4]; simp
  have h0 : (bothB a b 37 0 [(a.1, b.1)] [] []).1.getD 0 (0, 0) = (a.1, b.1) := by rw [g4]; rfl
  unfold isA
  rw [hab.1, hab.2, hok]
  cases ht : textOk s with
  | false => simp
  | true =>
    simp only [textOk, Bool.and_eq_true] at ht
    have := both_walk g2 0 s 0 ht.1 hpos
    rw [h0] at this
    simp only [Bool.true_and]
    exact this
/-- The other way round. -/
def swP (p : Int × Int) : Int × Int := (p.2, p.1)
theorem fi_swap (y : Int × Int) : ∀ l : PairsT, fi (l.map swP) (swP y) = fi l y
  | [] => rfl
  | x :: l => by
    have e : (swP x = swP y) ↔ x = y := ⟨fun h => by simp only [swP, Prod.mk.injEq] at h; exact Prod.ext h.2 h.1, fun h => by rw [h]⟩
    simp only [List.map_cons, fi, e, fi_swap y l]
theorem cell_swap (a b : AutoT) (p : Int × Int) (k : Nat) (ps : PairsT) : cellB b a (swP p) k (ps.map swP) = ((cellB a b p k ps).1.map swP, (cellB a b p k ps).2) := by
  have e : fi (ps.map swP) (goR b p.2 k, goR a p.1 k) = fi ps (goR a p.1 k, goR b p.2 k) := fi_swap (goR a p.1 k, goR b p.2 k) ps
  have l : cellB b a (swP p) k (ps.map swP) = (if 0 ≤ goR b p.2 k ∧ 0 ≤ goR a p.1 k then (if fi (ps.map swP) (goR b p.2 k, goR a p.1 k) < 0 then (ps.map swP ++ [(goR b p.2 k, goR a p.1 k)], ((ps.map swP).length : Int)) else (ps.map swP, fi (ps.map swP) (goR b p.2 k, goR a p.1 k))) else (ps.map swP, -1)) := rfl
  rw [l]
  by_cases h : 0 ≤ goR a p.1 k ∧ 0 ≤ goR b p.2 k
  · rw [if_pos ⟨h.2, h.1⟩]
    by_cases h2 : fi ps (goR a p.1 k, goR b p.2 k) < 0
    · have r : cellB a b p k ps = (ps ++ [(goR a p.1 k, goR b p.2 k)], (ps.length : Int)) := by unfold cellB; rw [if_pos h, if_pos h2]
      rw [if_pos (by rw [e]; exact h2), r]; simp [swP]
    · have r : cellB a b p k ps = (ps, fi ps (goR a p.1 k, goR b p.2 k)) := by unfold cellB; rw [if_pos h, if_neg h2]
      rw [if_neg (by rw [e]; exact h2), r, e]
  · have r : cellB a b p k ps = (ps, -1) := by unfold cellB; rw [if_neg h]
    rw [if_neg (fun h' => h ⟨h'.2, h'.1⟩), r]
theorem row_swap (a b : AutoT) (p : Int × Int) : ∀ (n j : Nat) (ps : PairsT) (row : List Int), rowB b a (swP p) n j (ps.map swP) row = ((rowB a b p n j ps row).1.map swP, (rowB a b p n j ps row).2)
  | 0, j, ps, row => rfl
  | n + 1, j, ps, row => by rw [rowB, rowB, cell_swap]; exact row_swap a b p n (j + 1) _ _
theorem bothB_swap (a b : AutoT) : ∀ (n i : Nat) (ps : PairsT) (es : List Bool) (gs : List (List Int)), (bothB b a n i (ps.map swP) es gs).2 = (bothB a b n i ps es gs).2
  | 0, i, ps, es, gs => rfl
  | n + 1, i, ps, es, gs => by
    unfold bothB
    simp only [List.length_map]
    split
    · rename_i h
      have e : (ps.map swP).getD i (0, 0) = swP (ps.getD i (0, 0)) := by
        rw [List.getD_eq_getElem?_getD, List.getD_eq_getElem?_getD, List.getElem?_map, List.getElem?_eq_getElem h]; rfl
      rw [e, row_swap]
      have e2 : (endR b (swP (ps.getD i (0, 0))).1 && endR a (swP (ps.getD i (0, 0))).2) = (endR a (ps.getD i (0, 0)).1 && endR b (ps.getD i (0, 0)).2) := Bool.and_comm _ _
      rw [e2]
      exact bothB_swap a b n (i + 1) _ _ _
    · rfl
theorem both_swap (a b : AutoT) : both b a = both a b := by
  unfold both
  have e := bothB_swap a b 37 0 [(a.1, b.1)] [] []
  have e2 : [(a.1, b.1)].map swP = [(b.1, a.1)] := rfl
  rw [e2] at e
  rw [e, Bool.and_comm]
/-! the same -/
theorem drop_eq_iff {α : Type} (l m : List α) (i : Nat) (d : α) (hl : i < l.length) (hm : i < m.length) : (l.drop i = m.drop i) ↔ (l.getD i d = m.getD i d ∧ l.drop (i + 1) = m.drop (i + 1)) := by
  rw [drop_cons l i d hl, drop_cons m i d hm]
  exact ⟨fun h => by simpa only [List.cons.injEq] using h, fun h => by rw [h.1, h.2]⟩
/-! strings.Trim -/
theorem dropWhile_all {α : Type} (p : α → Bool) : ∀ l : List α, l.dropWhile p = [] ↔ l.all p = true
  | [] => by simp
  | x :: l => by
    rw [List.dropWhile_cons]
    cases h : p x with
    | true => simp only [if_true, List.all_cons, h, Bool.true_and]; exact dropWhile_all p l
    | false => simp [h]
theorem trim_nil (s c : List UInt8) : (trimE s c = []) ↔ s.all c.contains = true := by
  unfold trimE
  rw [List.reverse_eq_nil_iff, dropWhile_all, List.all_reverse, ← dropWhile_all]
  constructor
  · intro h
    have h1 := (dropWhile_all _ _).1 h
    cases hd : s.dropWhile c.contains with
    | nil => exact (dropWhile_all _ _).1 hd
    | cons x l =>
      exfalso
      have h2 : (x :: l).dropWhile c.contains = [] := hd ▸ h
      have h3 : c.contains x = false := by
        have := List.head?_dropWhile_not c.contains s
        rw [hd] at this; simpa using this
      rw [List.dropWhile_cons, h3] at h2
      simp at h2
  · intro h
    rw [(dropWhile_all _ _).2 h]; rfl
/-! a walk by a text -/
def abcd : List UInt8 := [97, 98, 99, 100]
theorem small_abcd (c : UInt8) : small c = abcd.contains c := by
  by_cases h1 : c = 97
  · subst h1; rfl
  by_cases h2 : c = 98
  · subst h2; rfl
  by_cases h3 : c = 99
  · subst h3; rfl
  by_cases h4 : c = 100
  · subst h4; rfl
  have e : abcd.contains c = false := by
    simp [abcd, h1, h2, h3, h4]
  rw [e]
  have k : ∀ n : UInt8, c ≠ n → c.toNat ≠ n.toNat := fun n h e => h (UInt8.toNat_inj.1 e)
  have a1 := k 97 h1
  have a2 := k 98 h2
  have a3 := k 99 h3
  have a4 := k 100 h4
  simp only [show (97 : UInt8).toNat = 97 from rfl, show (98 : UInt8).toNat = 98 from rfl, show (99 : UInt8).toNat = 99 from rfl, show (100 : UInt8).toNat = 100 from rfl] at a1 a2 a3 a4
  by_cases h5 : 97 ≤ c.toNat
  · have : ¬ c.toNat ≤ 100 := by omega
    simp [small, this]
  · simp [small, h5]
theorem trim_abcd (s : List UInt8) : (trimE s abcd = []) ↔ s.all small = true := by
  have e : (small : UInt8 → Bool) = abcd.contains := funext small_abcd
  rw [e]
  exact trim_nil s abcd
theorem implTextOk_ev (s : List UInt8) : EvP (fun k => impl_TextOk k s) (fun r => r = textOk s) := by
  refine EvP.fn (fun k => impl_TextOk_eq k s) (EvP.bind (P := fun r => r = textOk s) ?_ fun r hr => EvP.now hr)
  refine EvP.fn (fun k => impl_areSmalls_eq k _ _) (EvP.dec (fun h => ?_) (fun h => EvP.now ?_))
  · refine EvP.bind (P := fun r => r = trimE s abcd) (EvP.fn (fun k => strings_Trim_eq k _ _) (EvP.yes ⟨by omega, by decide, by decide⟩ (EvP.now rfl))) fun r hr => EvP.now ?_
    rw [hr]
    have h8 : s.length ≤ 8 := by omega
    show decide (trimE s abcd = []) = textOk s
    simp only [textOk, h8, decide_true, Bool.and_true]
    have := trim_abcd s
    cases hc : s.all small with
    | true => exact decide_eq_true (this.2 hc)
    | false => exact decide_eq_false (fun h => by rw [this.1 h] at hc; cases hc)
  · have h8 : ¬ s.length ≤ 8 := by omega
    simp [textOk, h8]
theorem goes_ev {a : AutoT} (ha : OkA a) {p : Int} (h0 : 0 ≤ p) (h1 : p < a.2.1.length) {c : UInt8} (hc : small c = true) : EvP (fun k => impl_Auto_goes k a.1 a.2.1 a.2.2 p (c.toNat : Int)) (fun r => r = goR a p (c.toNat - 97)) := by
  simp only [small, Bool.and_eq_true, decide_eq_true_eq] at hc
  have hg := ha.go h0 h1 (k := c.toNat - 97) (by omega)
  have l1 := ha.l
  have e : IntKind.u8.wrap ((c.toNat : Int) - 97) = ((c.toNat - 97 : Nat) : Int) := by rw [w8 (by omega) (by omega)]; omega
  refine EvP.fn (fun k => impl_Auto_goes_eq k _ _ _ _ _) ?_
  rw [e]
  refine EvP.yes h0 (EvP.yes (by omega) (EvP.yes (by omega) (EvP.yes (by rw [hg.2.2]; omega) (EvP.now rfl))))
theorem is_loop {a : AutoT} (ha : OkA a) (s : List UInt8) (hs : s.all small = true) (hl : s.length ≤ 1000) : ∀ (n i : Nat) (p : Int), i + n = s.length → 0 ≤ p → p < a.2.1.length →
    EvP (fun k => impl_AutoIs_L122 k s a p (s.length : Int) (i : Int)) (fun r => r = walkA a p (s.drop i))
  | 0, i, p, h, h0, h1 => by
    refine EvP.fn (fun k => impl_AutoIs_L122_eq k _ _ _ _ _) (EvP.decN (by omega) (EvP.yes h0 (EvP.yes h1 (EvP.now ?_))))
    rw [List.drop_eq_nil_of_le (by omega)]; rfl
  | n + 1, i, p, h, h0, h1 => by
    refine EvP.fn (fun k => impl_AutoIs_L122_eq k _ _ _ _ _) (EvP.decY (by omega) (EvP.yes (by omega) (EvP.yes (by omega) ?_)))
    rw [Int.toNat_natCast, drop_cons s i 0 (by omega)]
    have hc : small (s.getD i 0) = true := List.all_eq_true.1 hs _ (getD_mem s i 0 (by omega))
    have hk : (s.getD i 0).toNat - 97 < 4 := by
      simp only [small, Bool.and_eq_true, decide_eq_true_eq] at hc; omega
    have hg := ha.go h0 h1 hk
    refine EvP.bind (goes_ev ha h0 h1 hc) fun r hr => ?_
    subst hr
    refine EvP.dec (fun hn => EvP.now ?_) (fun hn => ?_)
    · rw [walkA, if_pos hn]
    · rw [w64 (by omega) (by omega)]
      refine (is_loop ha s hs hl n (i + 1) _ (by omega) (by omega) hg.2.1).mono fun r hr => ?_
      rw [hr, walkA, if_neg hn]
theorem implIs_ev (a : AutoT) (ha : Mid a) (s : List UInt8) : EvP (fun k => impl_AutoIs k a.1 a.2.1 a.2.2 s) (fun r => r = isA a s) := by
  refine EvP.fn (fun k => impl_AutoIs_eq k _ _ _ _) (EvP.bind (implAutoOk_ev a ha) fun r hr => ?_)
  subst hr
  cases h1 : autoOk a with
  | false => exact EvP.no (by simp) (EvP.now (by simp [isA, h1]))
  | true =>
    refine EvP.yes rfl (EvP.bind (implTextOk_ev s) fun r hr => ?_)
    subst hr
    cases h2 : textOk s with
    | false => exact EvP.yes rfl (EvP.now (by simp [isA, h2]))
    | true =>
      have h3 := h2
      simp only [textOk, Bool.and_eq_true, decide_eq_true_eq] at h3
      have ha' := okA h1
      refine EvP.no (by simp) ((is_loop ha' s h3.1 (by omega) s.length 0 a.1 (by omega) ha'.b0 ha'.b1).mono fun r hr => ?_)
      rw [hr]; simp [isA, h1, h2]
/-! a drawn text, no grammar at hand -/
theorem l4Some_ev {m : Nat} {b : List Int} {p : Int} (hr : Rd (m + 10) b p) : EvP (fun k => spec_l4Some k b p []) (fun r => r.1.length ≤ 20) := by
  refine EvP.fn (fun k => spec_l4Some_eq k _ _ _) (EvP.bind (P := fun r => r = false) ?_ fun r hr' => ?_)
  · exact EvP.fn (fun k => spec_GramOk_eq k _) (EvP.bind (P := fun r => r = false) (EvP.fn (fun k => spec_SignBig_eq k _) (EvP.decN (by simp) (EvP.now rfl))) fun r hr => by subst hr; exact EvP.no (by simp) (EvP.now rfl))
  · subst hr'
    refine EvP.no (by simp) (EvP.fn (fun k => spec_l4Some_L7_eq k _) (EvP.bind (pick_ev (m := m + 9) hr (by omega) (by omega)) fun a ha => EvP.bind (l4Text_ev (m := m + 3) (n := 6) ha.1 (by omega) (by omega) (ha.2.2.less (by omega))) fun c hc => EvP.bind (pick_ev (m := m + 2) hc.2 (by omega) (by omega)) fun d hd => ?_))
    refine EvP.dec (fun _ => EvP.bind (of_ev (m := m + 1) hd.2.2 _ (by simp) (by simp)) fun e he => ?_) (fun _ => EvP.now (by show c.1.length ≤ 20; omega))
    have hl : e.1.length ≤ 9 := by
      have := he.1
      simp only [List.mem_cons, List.not_mem_nil, or_false] at this
      rcases this with h | h | h | h <;> rw [h] <;> decide
    exact EvP.yes (by omega) (EvP.now (by show (c.1 ++ e.1).length ≤ 20; simp; omega))
theorem drawIs_ev (l : List Int) (h : ∀ x ∈ l, (Lit.int .u8 x).wf = true) : EvP (fun k => spec_DrawAutoIs k l) (fun r => Sml r.1 ∧ r.2.length ≤ 20) := by
  refine EvP.fn (fun k => spec_DrawAutoIs_eq k _) (EvP.bind (open_ev l h) fun a ha => EvP.bind (some_ev (m := 1000) (ha.less (by omega))) fun b hb => EvP.bind (l4Some_ev (m := 900) (hb.2.less (by omega))) fun c hc => EvP.now ⟨hb.1, hc⟩)
/-! the other walk -/
def prog {α : Type} (f : α → α) (l : List α) (i : Nat) : List α := (l.take i).map f ++ l.drop i
section
variable {α : Type} {f : α → α} {l : List α}
theorem prog_len (i : Nat) : (prog f l i).length = l.length := by
  unfold prog
  rw [List.length_append, List.length_map, List.length_take, List.length_drop]; omega
theorem prog_zero : prog f l 0 = l := by simp [prog]
theorem prog_end : prog f l l.length = l.map f := by simp [prog]
theorem prog_get {i : Nat} (d : α) (h : i < l.length) : (prog f l i).getD i d = l.getD i d := by
  unfold prog
  rw [List.getD_eq_getElem?_getD, List.getElem?_append_right (by simp; omega), List.length_map, List.length_take, Nat.min_eq_left (by omega), Nat.sub_self, List.getElem?_drop, Nat.add_zero, List.getD_eq_getElem?_getD]
theorem prog_set {i : Nat} (d : α) (h : i < l.length) : (prog f l i).set i (f (l.getD i d)) = prog f l (i + 1) := by
  have e : l.take (i + 1) = l.take i ++ [l.getD i d] := by
    rw [List.take_add_one, List.getD_eq_getElem?_getD, List.getElem?_eq_getElem h]; rfl
  unfold prog
  rw [List.set_append_right _ _ (by simp; omega), List.length_map, List.length_take, Nat.min_eq_left (by omega), Nat.sub_self, drop_cons l i d h, List.set_cons_zero, e, List.map_append, List.append_assoc]
  rfl
theorem prog_keep {i : Nat} (d : α) (h : i < l.length) (hf : f (l.getD i d) = l.getD i d) : prog f l (i + 1) = prog f l i := by
  rw [← prog_set d h, hf]
  apply List.ext_getElem
  · rw [List.length_set]
  · intro j h1 h2
    rw [List.getElem_set]
    split
    · rename_i e
      subst e
      have := prog_get (f := f) d h
      rw [List.getD_eq_getElem?_getD, List.getElem?_eq_getElem h2] at this
      exact this.symm
    · rfl
end
def fillN (n : Nat) (x : Int) : Int := if x < 0 then (n : Int) else x
def fillR (n : Nat) (r : List Int) : List Int := r.map (fillN n)
def missR (r : List Int) : Bool := r.any fun x => decide (x < 0)
def missA (a : AutoT) : Bool := a.2.2.any missR
def baseN (a : AutoT) : List Bool × List (List Int) := if missA a = true then (a.2.1 ++ [false], a.2.2.map (fillR a.2.1.length) ++ [List.replicate 4 (a.2.1.length : Int)]) else (a.2.1, a.2.2.map (fillR a.2.1.length))
def outN (a : AutoT) : AutoT := (a.1, (baseN a).1.map (fun b => !b), (baseN a).2)
def notA (a : AutoT) : AutoT × Bool := if autoOk a then wrapB (outN a) else ((0, [], []), false)
theorem outN_mid {a : AutoT} (ha : OkA a) : Mid (outN a) := by
  have hn := ha.n
  have hl := ha.l
  have key : (baseN a).1.length ≤ 1000 ∧ (baseN a).2.length ≤ 1000 ∧ ∀ r ∈ (baseN a).2, r.length ≤ 1000 := by
    have hr : ∀ r ∈ a.2.2.map (fillR a.2.1.length), r.length ≤ 1000 := fun r hr => by
      obtain ⟨q, hq, rfl⟩ := List.mem_map.1 hr
      have := ha.r4 q hq
      unfold fillR; rw [List.length_map]; omega
    unfold baseN
    split
    · refine ⟨by rw [List.length_append]; show _ + 1 ≤ _; omega, by rw [List.length_append, List.length_map]; show _ + 1 ≤ _; omega, fun r hm => ?_⟩
      rcases List.mem_append.1 hm with h | h
      · exact hr r h
      · rw [List.mem_singleton.1 h]; simp
    · exact ⟨by show a.2.1.length ≤ _; omega, by rw [List.length_map]; omega, hr⟩
  exact ⟨by show ((baseN a).1.map _).length ≤ _; rw [List.length_map]; exact key.1, key.2.1, key.2.2⟩
theorem implFlip_ev (z o : AutoT) (hz : Mid (o.1, o.2.1.map (fun b => !b), o.2.2)) (hl : o.2.1.length ≤ 1000) : EvP (fun k => impl_AutoNot_L255 k z o) (fun r => r = wrapB (o.1, o.2.1.map (fun b => !b), o.2.2)) := by
  have loop : ∀ (q i : Nat), i + q = o.2.1.length → EvP (fun k => impl_AutoNot_L2042 k z (o.1, prog (fun b => !b) o.2.1 i, o.2.2) (o.2.1.length : Int) (i : Int)) (fun r => r = wrapB (o.1, o.2.1.map (fun b => !b), o.2.2)) := by
    intro q
    induction q with
    | zero =>
      intro i hi
      obtain rfl : i = o.2.1.length := by omega
      rw [prog_end]
      refine EvP.fn (fun k => impl_AutoNot_L2042_eq k _ _ _ _) (EvP.decN (by omega) (EvP.bind (implAutoOk_ev (o.1, o.2.1.map (fun b => !b), o.2.2) hz) fun b hb => EvP.ite (fun h => EvP.now ?_) (fun h => EvP.now ?_)))
      · unfold wrapB
        rw [← hb, if_neg (by simpa using h)]
      · unfold wrapB
        rw [← hb, if_pos (by simpa using h)]
    | succ q ih =>
      intro i hi
      have hp := prog_len (f := fun b : Bool => !b) (l := o.2.1) i
      have y : (i : Int) < ((prog (fun b => !b) o.2.1 i).length : Int) := by rw [hp]; omega
      refine EvP.fn (fun k => impl_AutoNot_L2042_eq k _ _ _ _) (EvP.decY (by omega) (EvP.yes (by omega) (EvP.yes y (EvP.yes (by omega) (EvP.yes y ?_)))))
      rw [Int.toNat_natCast, w64 (by omega) (by omega)]
      have e := prog_get (f := fun b : Bool => !b) (l := o.2.1) false (i := i) (by omega)
      have e2 := prog_set (f := fun b : Bool => !b) (l := o.2.1) false (i := i) (by omega)
      have ih := ih (i + 1) (by omega)
      rw [← e2] at ih
      dsimp only
      rw [e]
      cases hv : o.2.1.getD i false <;> rw [hv] at ih <;> exact ih
  refine EvP.fn (fun k => impl_AutoNot_L255_eq k _ _) ?_
  have := loop o.2.1.length 0 (Nat.zero_add _)
  rw [prog_zero] at this
  exact this
theorem clone_ev (r : List Int) (h0 : 0 < r.length) (h1 : r.length ≤ 1000) : EvP (fun k => slices_Clone_Sint_int k r) (fun x => x = r) :=
  EvP.fn (fun k => slices_Clone_Sint_int_eq k _) (EvP.yes h0 (EvP.yes (mE (by omega)) (EvP.now rfl)))
theorem cloneB_ev (r : List Bool) (h0 : 0 < r.length) (h1 : r.length ≤ 1000) : EvP (fun k => slices_Clone_Sbool_bool k r) (fun x => x = r) :=
  EvP.fn (fun k => slices_Clone_Sbool_bool_eq k _) (EvP.yes h0 (EvP.yes (mE (by omega)) (EvP.now rfl)))
theorem repeat_ev (v : Int) (n : Nat) (h1 : 1 ≤ n) (h2 : n ≤ 100000) : EvP (fun k => slices_Repeat_Sint_int k [v] (n : Int)) (fun r => r = List.replicate n v) :=
  EvP.fn (fun k => slices_Repeat_Sint_int_eq k _ _) (EvP.yes ⟨rfl, by omega, by omega⟩ (EvP.now (by rw [Int.toNat_natCast]; rfl)))
theorem implNotRow_ev (z o : AutoT) (n : Nat) (m : Bool) (rows : List (List Int)) (len idx : Int) (row : List Int) (hr : row.length ≤ 1000) {P : AutoT × Bool → Prop}
    (nx : EvP (fun k => impl_AutoNot_L518554 k z o (n : Int) (m || missR row) (fillR n row) rows len idx (row.length : Int) (row.length : Int)) P) :
    ∀ (q i : Nat), i + q = row.length → EvP (fun k => impl_AutoNot_L518554 k z o (n : Int) (m || missR (row.take i)) (prog (fillN n) row i) rows len idx (row.length : Int) (i : Int)) P
  | 0, i, hi => by
    obtain rfl : i = row.length := by omega
    rw [prog_end, List.take_length]; exact nx
  | q + 1, i, hi => by
    have hp := prog_len (f := fillN n) (l := row) i
    have e := prog_get (f := fillN n) (l := row) 0 (i := i) (by omega)
    have et : row.take (i + 1) = row.take i ++ [row.getD i 0] := by
      rw [List.take_add_one, List.getD_eq_getElem?_getD, List.getElem?_eq_getElem (show i < row.length by omega)]; rfl
    have ih := implNotRow_ev z o n m rows len idx row hr nx q (i + 1) (by omega)
    rw [et] at ih
    unfold missR at ih ⊢
    rw [List.any_append] at ih
    refine EvP.fn (fun k => impl_AutoNot_L518554_eq k _ _ _ _ _ _ _ _ _ _) (EvP.decY (by omega) (EvP.yes (by omega) (EvP.yes (by omega) ?_)))
    rw [Int.toNat_natCast, e, w64 (by omega) (by omega)]
    refine EvP.dec (fun h => EvP.yes (by omega) (EvP.yes (by omega) ?_)) (fun h => ?_)
    · have e3 : (n : Int) = fillN n (row.getD i 0) := by unfold fillN; rw [if_pos h]
      have e4 : [row.getD i 0].any (fun x => decide (x < 0)) = true := by simp only [List.any_cons, List.any_nil, decide_eq_true h, Bool.or_false]
      rw [e4, Bool.or_true, Bool.or_true] at ih
      have e5 := prog_set (f := fillN n) (l := row) 0 (i := i) (by omega)
      rw [← e3] at e5
      rw [e5]
      exact ih
    · have e3 : fillN n (row.getD i 0) = row.getD i 0 := by unfold fillN; rw [if_neg h]
      have e4 : [row.getD i 0].any (fun x => decide (x < 0)) = false := by simp only [List.any_cons, List.any_nil, decide_eq_false h, Bool.or_false]
      rw [e4, Bool.or_false, prog_keep 0 (by omega) e3] at ih
      exact ih
theorem implNot_ev (a : AutoT) (hm : Mid a) : EvP (fun k => impl_AutoNot k a.1 a.2.1 a.2.2) (fun r => r = notA a) := by
  refine EvP.fn (fun k => impl_AutoNot_eq k _ _ _) (EvP.bind (implAutoOk_ev a hm) fun b hb => ?_)
  subst hb
  cases hok : autoOk a with
  | false => exact EvP.yes rfl (EvP.now (by unfold notA; rw [hok]; rfl))
  | true =>
    have ha := okA hok
    have hn := ha.n
    have hl := ha.l
    have hn0 : 0 < a.2.1.length := by have := ha.b0; have := ha.b1; omega
    refine EvP.no (by simp) (EvP.bind (cloneB_ev _ hn0 (by omega)) fun es he => ?_)
    subst he
    have hw : notA a = wrapB (outN a) := by unfold notA; rw [if_pos hok]
    rw [hw]
    have loop : ∀ (q i : Nat), i + q = a.2.2.length → EvP (fun k => impl_AutoNot_L506 k ((0 : Int), [], []) (a.1, a.2.1, (a.2.2.take i).map (fillR a.2.1.length)) (a.2.1.length : Int) ((a.2.2.take i).any missR) a.2.2 (a.2.2.length : Int) (i : Int)) (fun r => r = wrapB (outN a)) := by
      intro q
      induction q with
      | zero =>
        intro i hi
        obtain rfl : i = a.2.2.length := by omega
        rw [List.take_length]
        refine EvP.fn (fun k => impl_AutoNot_L506_eq k _ _ _ _ _ _ _) (EvP.decN (by omega) ?_)
        have hmid := outN_mid ha
        unfold outN baseN missA at hmid ⊢
        refine EvP.ite (fun h => EvP.yes (mE (by show a.2.1.length + 1 ≤ _; omega)) (EvP.bind (repeat_ev _ 4 (by omega) (by omega)) fun x hx => EvP.yes (mE (by rw [List.length_map]; show _ + 1 ≤ _; omega)) ?_)) (fun h => ?_)
        · subst hx
          rw [if_pos h] at hmid ⊢
          exact implFlip_ev _ (a.1, a.2.1 ++ [false], a.2.2.map (fillR a.2.1.length) ++ [List.replicate 4 (a.2.1.length : Int)]) hmid (by show (a.2.1 ++ [false]).length ≤ _; rw [List.length_append]; show _ + 1 ≤ _; omega)
        · rw [if_neg h] at hmid ⊢
          exact implFlip_ev _ (a.1, a.2.1, a.2.2.map (fillR a.2.1.length)) hmid (by show a.2.1.length ≤ _; omega)
      | succ q ih =>
        intro i hi
        have hrow := ha.r4 _ (getD_mem a.2.2 i [] (by omega))
        have et : a.2.2.take (i + 1) = a.2.2.take i ++ [a.2.2.getD i []] := by
          rw [List.take_add_one, List.getD_eq_getElem?_getD, List.getElem?_eq_getElem (show i < a.2.2.length by omega)]; rfl
        refine EvP.fn (fun k => impl_AutoNot_L506_eq k _ _ _ _ _ _ _) (EvP.decY (by omega) (EvP.yes (by omega) (EvP.yes (by omega) ?_)))
        rw [Int.toNat_natCast]
        refine EvP.bind (clone_ev _ (by omega) (by omega)) fun x hx => ?_
        subst hx
        have := implNotRow_ev ((0 : Int), [], []) (a.1, a.2.1, (a.2.2.take i).map (fillR a.2.1.length)) a.2.1.length ((a.2.2.take i).any missR) a.2.2 (a.2.2.length : Int) (i : Int) (a.2.2.getD i []) (by omega) (P := fun r => r = wrapB (outN a)) ?_ (a.2.2.getD i []).length 0 (Nat.zero_add _)
        · rw [prog_zero] at this
          have e : ((a.2.2.take i).any missR || missR ((a.2.2.getD i []).take 0)) = (a.2.2.take i).any missR := by
            rw [List.take_zero]; exact Bool.or_false _
          rw [e] at this
          exact this
        · refine EvP.fn (fun k => impl_AutoNot_L518554_eq k _ _ _ _ _ _ _ _ _ _) (EvP.decN (by omega) (EvP.yes (mE (by rw [List.length_map, List.length_take]; show _ + 1 ≤ _; omega)) ?_))
          rw [w64 (by omega) (by omega)]
          have h := ih (i + 1) (by omega)
          rw [et, List.map_append, List.any_append] at h
          have e : [a.2.2.getD i []].any missR = missR (a.2.2.getD i []) := by simp
          rw [e] at h
          exact h
    exact loop a.2.2.length 0 (Nat.zero_add _)
/-! the other walk: spec -/
theorem fill_none {n : Nat} {gs : List (List Int)} (h : gs.any missR = false) : gs.map (fillR n) = gs := by
  conv => rhs; rw [← List.map_id gs]
  refine List.map_congr_left fun r hr => ?_
  have h1 : missR r = false := by
    cases hm : missR r with
    | false => rfl
    | true => rw [List.any_eq_true.2 ⟨r, hr, hm⟩] at h; cases h
  show r.map (fillN n) = r
  conv => rhs; rw [← List.map_id r]
  refine List.map_congr_left fun x hx => ?_
  unfold fillN
  have h2 : ¬ x < 0 := fun hlt => by
    have : missR r = true := List.any_eq_true.2 ⟨x, hx, decide_eq_true hlt⟩
    rw [this] at h1; cases h1
  rw [if_neg h2]; rfl
/-! what the other walk lets by -/
structure Whole (a : AutoT) : Prop where
  ge : ∀ r ∈ a.2.2, ∀ x ∈ r, 0 ≤ x
theorem fillN_ge (n : Nat) (x : Int) : 0 ≤ fillN n x := by unfold fillN; split <;> omega
theorem outN_whole (a : AutoT) : Whole (outN a) := by
  have hr : ∀ r ∈ a.2.2.map (fillR a.2.1.length), ∀ x ∈ r, 0 ≤ x := fun r hr x hx => by
    obtain ⟨q, hq, rfl⟩ := List.mem_map.1 hr
    obtain ⟨y, _, rfl⟩ := List.mem_map.1 hx
    exact fillN_ge _ _
  refine ⟨?_⟩
  unfold outN baseN
  split
  · intro r hm x hx
    rcases List.mem_append.1 hm with h | h
    · exact hr r h x hx
    · rw [List.mem_singleton.1 h] at hx
      rw [List.eq_of_mem_replicate hx]; omega
  · exact hr
theorem Whole.miss {a : AutoT} (h : Whole a) : missA a = false := by
  cases hm : missA a with
  | false => rfl
  | true =>
    obtain ⟨r, hr, h1⟩ := List.any_eq_true.1 hm
    obtain ⟨x, hx, h2⟩ := List.any_eq_true.1 h1
    have := h.ge r hr x hx
    have := of_decide_eq_true h2
    omega
theorem goR_out {a : AutoT} (ha : OkA a) {p : Int} (h0 : 0 ≤ p) (h1 : p < a.2.1.length) {k : Nat} (hk : k < 4) : goR (outN a) p k = fillN a.2.1.length (goR a p k) := by
  have hl := ha.l
  have hg := (ha.go h0 h1 hk).2.2
  have e : (outN a).2.2.getD p.toNat [] = fillR a.2.1.length (a.2.2.getD p.toNat []) := by
    have key : (a.2.2.map (fillR a.2.1.length)).getD p.toNat [] = fillR a.2.1.length (a.2.2.getD p.toNat []) := by
      rw [List.getD_eq_getElem?_getD, List.getElem?_map, List.getElem?_eq_getElem (show p.toNat < a.2.2.length by omega), List.getD_eq_getElem?_getD, List.getElem?_eq_getElem (show p.toNat < a.2.2.length by omega)]; rfl
    unfold outN baseN
    split
    · show List.getD (a.2.2.map (fillR a.2.1.length) ++ [List.replicate 4 (a.2.1.length : Int)]) p.toNat [] = _
      rw [getD_pre _ _ _ _ (by rw [List.length_map]; omega)]; exact key
    · exact key
  have key2 : ∀ l : List Int, k < l.length → (l.map (fillN a.2.1.length)).getD k 0 = fillN a.2.1.length (l.getD k 0) := fun l hl => by
    rw [List.getD_eq_getElem?_getD, List.getElem?_map, List.getElem?_eq_getElem hl, List.getD_eq_getElem?_getD, List.getElem?_eq_getElem hl]; rfl
  unfold goR
  rw [e]
  exact key2 _ (by omega)
theorem endR_out {a : AutoT} {p : Int} (h0 : 0 ≤ p) (h1 : p < a.2.1.length) : endR (outN a) p = !endR a p := by
  have key : ∀ l : List Bool, p.toNat < l.length → (l.map fun b => !b).getD p.toNat false = !l.getD p.toNat false := fun l hl => by
    rw [List.getD_eq_getElem?_getD, List.getElem?_map, List.getElem?_eq_getElem hl, List.getD_eq_getElem?_getD, List.getElem?_eq_getElem hl]; rfl
  unfold endR outN baseN
  split
  · show ((a.2.1 ++ [false]).map _).getD _ _ = _
    rw [key _ (by rw [List.length_append]; show _ < _ + 1; omega), getD_pre _ _ _ _ (by omega)]
  · exact key a.2.1 (by omega)
theorem sink_walk {a : AutoT} (ha : OkA a) (hm : missA a = true) : ∀ s : List UInt8, s.all small = true → walkA (outN a) (a.2.1.length : Int) s = true
  | [], _ => by
    show endR (outN a) (a.2.1.length : Int) = true
    unfold endR outN baseN
    rw [if_pos hm, Int.toNat_natCast]
    show ((a.2.1 ++ [false]).map _).getD _ _ = _
    rw [List.getD_eq_getElem?_getD, List.getElem?_map, List.getElem?_append_right (Nat.le_refl _), Nat.sub_self]; rfl
  | c :: s, hs => by
    rw [List.all_cons, Bool.and_eq_true] at hs
    have hk : c.toNat - 97 < 4 := by
      have := hs.1
      simp only [small, Bool.and_eq_true, decide_eq_true_eq] at this
      omega
    have hl := ha.l
    have eg : goR (outN a) (a.2.1.length : Int) (c.toNat - 97) = (a.2.1.length : Int) := by
      unfold goR outN baseN
      rw [if_pos hm, Int.toNat_natCast]
      have ei : (a.2.2.map (fillR a.2.1.length) ++ [List.replicate 4 (a.2.1.length : Int)]).getD a.2.1.length [] = List.replicate 4 (a.2.1.length : Int) := by
        rw [List.getD_eq_getElem?_getD, List.getElem?_append_right (by rw [List.length_map]; omega), List.length_map, hl, Nat.sub_self]; rfl
      show ((a.2.2.map (fillR a.2.1.length) ++ [List.replicate 4 (a.2.1.length : Int)]).getD a.2.1.length []).getD _ _ = _
      rw [ei]
      rw [List.getD_eq_getElem?_getD, List.getElem?_replicate, if_pos hk]; rfl
    show (if goR (outN a) (a.2.1.length : Int) (c.toNat - 97) < 0 then false else walkA (outN a) (goR (outN a) (a.2.1.length : Int) (c.toNat - 97)) s) = true
    rw [eg, if_neg (by omega)]
    exact sink_walk ha hm s hs.2
theorem not_walk {a : AutoT} (ha : OkA a) : ∀ (s : List UInt8) (p : Int), s.all small = true → 0 ≤ p → p < a.2.1.length → walkA (outN a) p s = !walkA a p s
  | [], p, _, h0, h1 => endR_out h0 h1
  | c :: s, p, hs, h0, h1 => by
    rw [List.all_cons, Bool.and_eq_true] at hs
    have hk : c.toNat - 97 < 4 := by
      have := hs.1
      simp only [small, Bool.and_eq_true, decide_eq_true_eq] at this
      omega
    have hg := ha.go h0 h1 hk
    show (if goR (outN a) p (c.toNat - 97) < 0 then false else walkA (outN a) (goR (outN a) p (c.toNat - 97)) s) = !(if goR a p (c.toNat - 97) < 0 then false else walkA a (goR a p (c.toNat - 97)) s)
    rw [goR_out ha h0 h1 hk, if_neg (by have := fillN_ge a.2.1.length (goR a p (c.toNat - 97)); omega)]
    by_cases hneg : goR a p (c.toNat - 97) < 0
    · rw [if_pos hneg]
      have hm : missA a = true := by
        have hl := ha.l
        refine List.any_eq_true.2 ⟨a.2.2.getD p.toNat [], getD_mem _ _ _ (by omega), List.any_eq_true.2 ⟨goR a p (c.toNat - 97), getD_mem _ _ _ (by omega), decide_eq_true hneg⟩⟩
      unfold fillN
      rw [if_pos hneg, sink_walk ha hm s hs.2]; rfl
    · rw [if_neg hneg]
      unfold fillN
      rw [if_neg hneg]
      exact not_walk ha s _ hs.2 (by omega) hg.2.1
theorem notA_ok {a : AutoT} (h : (notA a).2 = true) : autoOk a = true ∧ autoOk (outN a) = true ∧ notA a = (outN a, true) := by
  unfold notA at h ⊢
  split at h
  · rename_i hok
    rw [if_pos hok]
    unfold wrapB at h ⊢
    split at h
    · rename_i ho; rw [if_pos ho]; exact ⟨hok, ho, rfl⟩
    · cases h
  · cases h
theorem not_is {a : AutoT} (h : (notA a).2 = true) (s : List UInt8) (ht : textOk s = true) : isA (outN a) s = !isA a s := by
  obtain ⟨h1, h2, _⟩ := notA_ok h
  have hs := ht
  simp only [textOk, Bool.and_eq_true, decide_eq_true_eq] at hs
  unfold isA
  rw [h1, h2, ht, Bool.true_and, Bool.true_and, Bool.true_and, Bool.true_and]
  exact not_walk (okA h1) s a.1 hs.1 (okA h1).b0 (okA h1).b1
theorem whole_out {b : AutoT} (hm : missA b = false) : outN b = (b.1, b.2.1.map (fun x => !x), b.2.2) := by
  unfold outN baseN
  rw [if_neg (by simp [hm]), fill_none hm]
theorem not_not {a : AutoT} (h : (notA a).2 = true) : (notA (outN a)).2 = true := by
  obtain ⟨h1, h2, _⟩ := notA_ok h
  have ho := okA h2
  have hm := (outN_whole a).miss
  unfold notA
  rw [if_pos h2]
  rw [whole_out hm]
  unfold wrapB
  have : autoOk ((outN a).1, (outN a).2.1.map (fun b => !b), (outN a).2.2) = true := by
    unfold autoOk at h2 ⊢
    simp only [List.length_map] at h2 ⊢
    exact h2
  rw [if_pos this]
theorem drawNot_ev (l : List Int) (h : ∀ x ∈ l, (Lit.int .u8 x).wf = true) : EvP (fun k => spec_DrawAutoNot k l) (fun r => Sml r) := by
  refine EvP.fn (fun k => spec_DrawAutoNot_eq k _) (EvP.bind (open_ev l h) fun a ha => EvP.bind (some_ev (m := 1000) (ha.less (by omega))) fun b hb => EvP.now hb.1)
theorem notA_mid {a : AutoT} : Mid (notA a).1 := by
  have z : Mid ((0 : Int), ([] : List Bool), ([] : List (List Int))) := ⟨by simp, by simp, fun r hr => by simp at hr⟩
  cases h : (notA a).2 with
  | true =>
    obtain ⟨_, h2, h3⟩ := notA_ok h
    rw [h3]; exact (okA h2).mid
  | false =>
    unfold notA at h ⊢
    split at h
    · rename_i hc
      rw [if_pos hc]
      unfold wrapB at h ⊢
      split at h
      · cases h
      · rename_i hc; rw [if_neg hc]; exact z
    · rename_i hc; rw [if_neg hc]; exact z
theorem both_mid {a b : AutoT} : Mid (both a b).1 := by
  have z : Mid ((0 : Int), ([] : List Bool), ([] : List (List Int))) := ⟨by simp, by simp, fun r hr => by simp at hr⟩
  cases h : (both a b).2 with
  | true => exact (okA (both_is h []).2.2.1).mid
  | false =>
    unfold both at h ⊢
    split at h
    · rename_i hc
      rw [if_pos hc]
      unfold wrapB at h ⊢
      split at h
      · cases h
      · rename_i hc; rw [if_neg hc]; exact z
    · rename_i hc; rw [if_neg hc]; exact z
theorem law_ev (l : List Int) (h : ∀ x ∈ l, (Lit.int .u8 x).wf = true) : EvP (fun k => laws_FnAutoOwn k l) (fun r => r = true) := by
  refine EvP.fn (fun k => laws_FnAutoOwn_eq k l) (EvP.dec (fun _ => EvP.now rfl) (fun _ => ?_))
  refine EvP.bind (drawNot_ev l h) fun a ha => EvP.bind (drawIs_ev l h) fun cs hcs => ?_
  have hm := ha.mid
  refine EvP.bind (implBoth_ev a a hm hm) fun x hx => EvP.bind (specBoth_ev a a) fun y hy => ?_
  subst hx hy
  refine EvP.notF (fun _ => ?_) (fun h => absurd rfl h)
  cases hok : (both a a).2 with
  | false => exact EvP.yes rfl (EvP.now (decide_eq_true rfl))
  | true =>
    refine EvP.no (by simp) (EvP.bind (implNot_ev a hm) fun n hn => ?_)
    subst hn
    have hnm := notA_mid (a := a)
    refine EvP.bind (implBoth_ev a (notA a).1 hm hnm) fun z hz => EvP.bind (implIs_ev (both a a).1 both_mid cs.2) fun p hp => EvP.bind (implIs_ev a hm cs.2) fun q hq => ?_
    subst hz
    have e := (both_is hok cs.2).2.2.2
    rw [Bool.and_self] at e
    refine EvP.decY (by rw [hp, hq, e]) ?_
    cases h1 : (notA a).2 with
    | false => exact EvP.no (by simp) (EvP.now rfl)
    | true =>
      refine EvP.yes rfl ?_
      cases h2 : (both a (notA a).1).2 with
      | false => exact EvP.no (by simp) (EvP.now rfl)
      | true =>
        refine EvP.yes rfl (EvP.bind (implIs_ev (both a (notA a).1).1 both_mid cs.2) fun r hr => EvP.now ?_)
        have e2 := (both_is h2 cs.2).2.2.2
        have e3 : (notA a).1 = outN a := by rw [(notA_ok h1).2.2]
        have : r = false := by
          rw [hr, e2, e3]
          cases ht : textOk cs.2 with
          | false => unfold isA; rw [ht]; simp
          | true =>
            rw [not_is h1 cs.2 ht]
            cases isA a cs.2 <;> rfl
        subst this
        rfl
end Go.Proofs.YtmonmbjjobcnaaaDoor.Pure
