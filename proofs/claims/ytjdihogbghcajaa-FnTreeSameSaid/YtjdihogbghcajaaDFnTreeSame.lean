/- What the reader of draws answers: they answer, and within which bounds. -/
import Derived.Test.YtjdihogbghcajaaEv
import Derived.Test.YtjdihogbghcajaaEqFnTreeSame
namespace Go.Proofs.Ytjdihogbghcajaa.Pure
open Go Go.Proofs.Ytjdihogbghcajaa.Eng Go.Proofs.Ytjdihogbghcajaa.Eq Go.Proofs.Ytjdihogbghcajaa.Ev
set_option autoImplicit false
set_option linter.unusedVariables false
set_option linter.unusedSimpArgs false
set_option linter.unnecessarySimpa false

def Bytes (s : List Int) : Prop := (∀ x ∈ s, 0 ≤ x ∧ x ≤ 255) ∧ s.length ≤ 2000
/-- A reader, m draws ahead. -/
def Rd (m : Nat) (b : List Int) (p : Int) : Prop := Bytes b ∧ 0 ≤ p ∧ p + m ≤ 100000000
theorem Rd.less {m n : Nat} {b : List Int} {p : Int} (h : Rd m b p) (hn : n ≤ m) : Rd n b p := ⟨h.1, h.2.1, by have := h.2.2; omega⟩

theorem open_ev (l : List Int) (h : ∀ x ∈ l, (Lit.int .u8 x).wf = true) : EvP (fun k => spec_l17Open k l) (fun r => Rd 100000000 r.1 r.2) := by
  refine EvP.fn (fun k => spec_l17Open_eq k l) (EvP.dec (fun h1 => ?_) (fun h1 => ?_))
  · refine EvP.yes (by omega) (EvP.yes (by omega) (EvP.yes (by omega) (EvP.now ⟨⟨fun x hx => wf_byte (h x ?_), ?_⟩, by simp, by simp⟩)))
    · exact List.mem_of_mem_take (List.mem_of_mem_drop hx)
    · simp; omega
  · exact EvP.now ⟨⟨fun x hx => wf_byte (h x hx), by show l.length ≤ 2000; omega⟩, by simp, by simp⟩

theorem pick_ev {m : Nat} {b : List Int} {p : Int} (hr : Rd (m + 1) b p) {n : Int} (hn : 1 ≤ n) (hn2 : n ≤ 1000000) :
    EvP (fun k => spec_l17Rd_pick k b p n) (fun r => 0 ≤ r.1 ∧ r.1 < n ∧ Rd m r.2.1 r.2.2) := by
  obtain ⟨⟨hb, hl⟩, hp, hp2⟩ := hr
  have e1 : IntKind.i64.wrap (p + 1) = p + 1 := w64 (by omega) (by omega)
  have e2 : IntKind.i64.wrap (p + 1 - 1) = p := by rw [w64 (by omega) (by omega)]; omega
  have fin : ∀ x : Int, 0 ≤ x ∧ x < n → (0 ≤ (x, b, p + 1).1 ∧ (x, b, p + 1).1 < n ∧ Rd m (x, b, p + 1).2.1 (x, b, p + 1).2.2) := fun x h => ⟨h.1, h.2, ⟨hb, hl⟩, by show 0 ≤ p + 1; omega, by show p + 1 + m ≤ 100000000; omega⟩
  refine EvP.fn (fun k => spec_l17Rd_pick_eq k b p n) ?_
  rw [e1, e2]
  refine EvP.decF (fun _ => ?_) (fun h => absurd h (by omega))
  refine EvP.dec (fun h0 => EvP.now (fin 0 (by omega))) (fun h0 => ?_)
  refine EvP.dec (fun h1 => ?_) (fun h1 => ?_)
  · refine EvP.yes hp (EvP.yes h1 (EvP.no (by omega) (EvP.now (fin _ ?_))))
    have hx := getD_byte hb p.toNat
    rw [w64 (by omega) (by omega)]
    exact tmod_range _ n hx.1 hn
  · have hL : (1 : Int) ≤ b.length := by omega
    have t1 := tmod_range p b.length hp hL
    have e3 : IntKind.i64.wrap (p * 7) = p * 7 := w64 (by omega) (by omega)
    have e4 : IntKind.i64.wrap (p * 7 + 3) = p * 7 + 3 := w64 (by omega) (by omega)
    have t2 := tmod_range (p * 7 + 3) b.length (by omega) hL
    rw [e3, e4]
    refine EvP.no (by omega) (EvP.yes t1.1 (EvP.yes t1.2 (EvP.no (by omega) (EvP.yes t2.1 (EvP.yes t2.2 (EvP.no (by omega) (EvP.no (by omega) (EvP.now (fin _ ?_)))))))))
    generalize hA : b.getD (p.tmod b.length).toNat 0 = A
    generalize hB : b.getD ((p * 7 + 3).tmod b.length).toNat 0 = B'
    have hA' := getD_byte hb (p.tmod b.length).toNat
    have hB' := getD_byte hb ((p * 7 + 3).tmod b.length).toNat
    rw [hA] at hA'
    rw [hB] at hB'
    have hq : 0 ≤ Int.tdiv p b.length ∧ Int.tdiv p b.length ≤ p := ⟨Int.tdiv_nonneg hp (by omega), by
      rw [Int.tdiv_eq_ediv_of_nonneg hp]; exact Int.ediv_le_self _ hp⟩
    generalize Int.tdiv p b.length = Q at hq
    rw [w64 (x := A) (by omega) (by omega), w64 (x := B') (by omega) (by omega), w64 (x := A * 131) (by omega) (by omega), w64 (x := B' * 1117) (by omega) (by omega), w64 (x := p * 29) (by omega) (by omega), w64 (x := Q) (by omega) (by omega), w64 (x := Q * 53) (by omega) (by omega), w64 (x := A * 131 + B' * 1117) (by omega) (by omega), w64 (x := A * 131 + B' * 1117 + p * 29) (by omega) (by omega), w64 (x := A * 131 + B' * 1117 + p * 29 + Q * 53) (by omega) (by omega)]
    generalize hX : A * 131 + B' * 1117 + p * 29 + Q * 53 = X
    have hX1 : 0 ≤ X ∧ X ≤ 100000000000 := by omega
    have hd : 0 ≤ Int.tdiv X 64 ∧ Int.tdiv X 64 ≤ X := ⟨Int.tdiv_nonneg hX1.1 (by omega), by
      rw [Int.tdiv_eq_ediv_of_nonneg hX1.1]; exact Int.ediv_le_self _ hX1.1⟩
    generalize Int.tdiv X 64 = Y at hd
    rw [w64 (x := Y) (by omega) (by omega)]
    exact tmod_range (bxor X Y) n (xor_nonneg X Y (by omega) (by omega) (by omega) (by omega)) hn
theorem num_ev {m : Nat} {b : List Int} {p : Int} (hr : Rd (m + 1) b p) (l : List Int) (hl : 1 ≤ l.length) (hl2 : l.length ≤ 1000) :
    EvP (fun k => spec_l17Rd_num k b p l) (fun r => r.1 ∈ l ∧ Rd m r.2.1 r.2.2) := by
  refine EvP.fn (fun k => spec_l17Rd_num_eq k b p l) (EvP.bind (pick_ev hr (n := l.length) (by omega) (by omega)) fun a ha => ?_)
  exact EvP.yes ha.1 (EvP.yes ha.2.1 (EvP.now ⟨getD_mem _ _ _ (by omega), ha.2.2⟩))
theorem of_ev {m : Nat} {b : List Int} {p : Int} (hr : Rd (m + 1) b p) (l : List (List UInt8)) (hl : 1 ≤ l.length) (hl2 : l.length ≤ 1000) :
    EvP (fun k => spec_l17Rd_of k b p l) (fun r => r.1 ∈ l ∧ Rd m r.2.1 r.2.2) := by
  refine EvP.fn (fun k => spec_l17Rd_of_eq k b p l) (EvP.bind (pick_ev hr (n := l.length) (by omega) (by omega)) fun a ha => ?_)
  exact EvP.yes ha.1 (EvP.yes ha.2.1 (EvP.now ⟨getD_mem _ _ _ (by omega), ha.2.2⟩))
/-! signs -/
def small (c : UInt8) : Bool := decide (97 ≤ c.toNat) && decide (c.toNat ≤ 100)
theorem l1Small_ev (c : UInt8) : EvP (fun k => spec_l1Small k ((c.toNat : Nat) : Int)) (fun r => r = small c) := by
  refine EvP.fn (fun k => spec_l1Small_eq k _) (EvP.dec (fun h => EvP.now ?_) (fun h => EvP.now ?_))
  · have h1 : 97 ≤ c.toNat := by omega
    have e : decide ((c.toNat : Int) ≤ 100) = decide (c.toNat ≤ 100) := by congr 1; exact propext ⟨fun h => by omega, fun h => by omega⟩
    rw [e]; simp [small, h1]
  · have h1 : ¬ 97 ≤ c.toNat := by omega
    simp [small, h1]
theorem drop_cons {α : Type} (l : List α) (i : Nat) (d : α) (h : i < l.length) : l.drop i = l.getD i d :: l.drop (i + 1) := by
  rw [List.drop_eq_getElem_cons h, List.getD_eq_getElem?_getD, List.getElem?_eq_getElem h]; rfl
/-! grammars drawn -/
abbrev GramT := List UInt8 × List (List UInt8 × List UInt8)
/-- At most n rules, all short. -/
def Gr (n : Nat) (g : GramT) : Prop := g.1.length ≤ 5 ∧ g.2.length ≤ n ∧ ∀ x ∈ g.2, x.1.length ≤ 5 ∧ x.2.length ≤ 5
theorem mG {n : Nat} (h : n ≤ 1000000) : n < maxLenE := by unfold maxLenE; omega
theorem Gr.more {n m : Nat} {g : GramT} (h : Gr n g) (hm : n ≤ m) : Gr m g := ⟨h.1, by have := h.2.1; omega, h.2.2⟩
theorem Gr.add {n : Nat} {g : GramT} (h : Gr n g) (x : List UInt8 × List UInt8) (hx : x.1.length ≤ 5 ∧ x.2.length ≤ 5) : Gr (n + 1) (g.1, g.2 ++ [x]) :=
  ⟨h.1, by have := h.2.1; simp; omega, fun y hy => by
    rcases List.mem_append.1 hy with hy | hy
    · exact h.2.2 y hy
    · rw [List.mem_singleton.1 hy]; exact hx⟩
theorem Gr.set {n : Nat} {g : GramT} (h : Gr n g) (i : Nat) (x : List UInt8 × List UInt8) (hx : x.1.length ≤ 5 ∧ x.2.length ≤ 5) : Gr n (g.1, g.2.set i x) :=
  ⟨h.1, by have := h.2.1; simp; omega, fun y hy => by
    rcases List.mem_or_eq_of_mem_set hy with hy | hy
    · exact h.2.2 y hy
    · rw [hy]; exact hx⟩
theorem Gr.at {n : Nat} {g : GramT} (h : Gr n g) (i : Nat) (hi : i < g.2.length) : (g.2.getD i ([], [])).1.length ≤ 5 ∧ (g.2.getD i ([], [])).2.length ≤ 5 := h.2.2 _ (getD_mem _ _ _ hi)
theorem signed_loop : ∀ (n m : Nat) {b : List Int} {p : Int} (t : List UInt8) (i N : Int), i + n = N → 0 ≤ i → N ≤ 1000 → Rd (m + n) b p → t.length ≤ i → EvP (fun k => spec_l1Signed_L58 k (b, p) N t i) (fun r => r.1.length ≤ N ∧ Rd m r.2.1 r.2.2)
  | 0, m, b, p, t, i, N, h, h0, hN, hr, ht => by
    refine EvP.fn (fun k => spec_l1Signed_L58_eq k _ _ _ _) (EvP.decN (by omega) (EvP.now ⟨by show (t.length : Int) ≤ N; omega, hr⟩))
  | n + 1, m, b, p, t, i, N, h, h0, hN, hr, ht => by
    refine EvP.fn (fun k => spec_l1Signed_L58_eq k _ _ _ _) (EvP.decY (by omega) ?_)
    refine EvP.bind (of_ev (m := m + n) (hr.less (by omega)) _ (by simp) (by simp)) fun a ha => ?_
    have hl : a.1.length = 1 := by
      have := ha.1
      simp only [List.mem_cons, List.not_mem_nil, or_false] at this
      rcases this with h | h | h | h | h | h | h | h | h <;> rw [h] <;> rfl
    refine EvP.yes (by omega) ?_
    rw [w64 (by omega) (by omega)]
    exact signed_loop n m _ (i + 1) N (by omega) (by omega) hN ha.2 (by simp [hl]; omega)
theorem signed_ev {m n : Nat} {b : List Int} {p : Int} {N : Int} (h0 : 0 ≤ N) (hN : N ≤ n) (hn : n ≤ 1000) (hr : Rd (m + n) b p) : EvP (fun k => spec_l1Signed k b p N) (fun r => r.1.length ≤ N ∧ Rd m r.2.1 r.2.2) := by
  obtain ⟨N', rfl⟩ := Int.eq_ofNat_of_zero_le h0
  exact EvP.fn (fun k => spec_l1Signed_eq k _ _ _) (signed_loop N' m [] 0 _ (by omega) (by omega) (by omega) (hr.less (by omega)) (by simp))
theorem place_loop (l : List (List UInt8 × List UInt8)) (hl : l.length ≤ 1000) (x : List UInt8 × List UInt8) : ∀ (n i : Nat), i + n = l.length → EvP (fun k => spec_l1Place_L26 k l x (i : Int)) (fun r => r < 0 ↔ x ∉ l.drop i)
  | 0, i, h => by
    refine EvP.fn (fun k => spec_l1Place_L26_eq k _ _ _) (EvP.decN (by omega) (EvP.now ?_))
    rw [List.drop_eq_nil_of_le (by omega)]
    exact ⟨fun _ h => absurd h List.not_mem_nil, fun _ => by decide⟩
  | n + 1, i, h => by
    refine EvP.fn (fun k => spec_l1Place_L26_eq k _ _ _) (EvP.decY (by omega) (EvP.yes (by omega) (EvP.yes (by omega) ?_)))
    rw [Int.toNat_natCast, drop_cons l i ([], []) (by omega)]
    refine EvP.ite (fun h' => EvP.now ?_) (fun h' => ?_)
    · simp only [Bool.and_eq_true, decide_eq_true_eq] at h'
      have e : x = l.getD i ([], []) := Prod.ext h'.1.symm h'.2.symm
      exact ⟨fun h => absurd h (by omega), fun h => absurd (e ▸ List.mem_cons_self) h⟩
    · have e : ¬ x = l.getD i ([], []) := fun e => h' (by rw [← e]; simp)
      rw [w64 (by omega) (by omega)]
      refine (place_loop l hl x n (i + 1) (by omega)).mono fun r hr => ?_
      rw [hr, List.mem_cons, not_or]
      exact ⟨fun h => ⟨e, h⟩, fun h => h.2⟩
theorem place_ev (l : List (List UInt8 × List UInt8)) (hl : l.length ≤ 1000) (x y : List UInt8) : EvP (fun k => spec_l1Place k l x y) (fun r => r < 0 ↔ (x, y) ∉ l) := by
  refine EvP.fn (fun k => spec_l1Place_eq k _ _ _) ((place_loop l hl (x, y) l.length 0 (by omega)).mono fun r hr => ?_)
  rw [hr, List.drop_zero]
theorem base_ev (n : Int) : EvP (fun k => spec_l1Base k n) (fun r => Gr 6 r) := by
  refine EvP.fn (fun k => spec_l1Base_eq k _) ?_
  refine EvP.dec (fun _ => EvP.now ?_) (fun _ => EvP.dec (fun _ => EvP.now ?_) (fun _ => EvP.dec (fun _ => EvP.now ?_) (fun _ => EvP.dec (fun _ => EvP.now ?_) (fun _ => EvP.dec (fun _ => EvP.now ?_) (fun _ => EvP.dec (fun _ => EvP.now ?_) (fun _ => EvP.dec (fun _ => EvP.now ?_) (fun _ => EvP.now ?_)))))))
  all_goals (unfold Gr; decide)
theorem gram_loop : ∀ (n m : Nat) {b : List Int} {p : Int} (x g : GramT) (q : Nat), Gr q g → q + n ≤ 100 → Rd (m + 5 * n) b p →
    EvP (fun k => spec_l1Gram_L122 k (b, p) x g (n : Int)) (fun r => Gr (q + n) r.1 ∧ Rd m r.2.1 r.2.2)
  | 0, m, b, p, x, g, q, hg, hq, hr => by
    refine EvP.fn (fun k => spec_l1Gram_L122_eq k _ _ _ _) (EvP.decN (by omega) (EvP.now ⟨hg, hr⟩))
  | n + 1, m, b, p, x, g, q, hg, hq, hr => by
    have hg2 := hg.2.1
    refine EvP.fn (fun k => spec_l1Gram_L122_eq k _ _ _ _) (EvP.decY (by omega) ?_)
    refine EvP.bind (of_ev (m := m + 5 * n + 4) (hr.less (by omega)) _ (by simp) (by simp)) fun a ha => ?_
    have hl : a.1.length = 1 := by
      have := ha.1
      simp only [List.mem_cons, List.not_mem_nil, or_false] at this
      rcases this with h | h | h | h <;> rw [h] <;> rfl
    refine EvP.bind (num_ev (m := m + 5 * n + 3) (ha.2.less (by omega)) _ (by simp) (by simp)) fun c hc => ?_
    have hcb : 0 ≤ c.1 ∧ c.1 ≤ 3 := by
      have := hc.1
      simp only [List.mem_cons, List.not_mem_nil, or_false] at this
      omega
    refine EvP.bind (signed_ev (m := m + 5 * n) (n := 3) hcb.1 (by omega) (by omega) (hc.2.less (by omega))) fun d hd => ?_
    refine EvP.bind (place_ev g.2 (by omega) a.1 d.1) fun e he => ?_
    have e1 : IntKind.i64.wrap (((n + 1 : Nat) : Int) - 1) = (n : Int) := by rw [w64 (by omega) (by have := hr.2.2; omega)]; omega
    rw [e1]
    refine EvP.dec (fun _ => EvP.yes (mG (by simp; omega)) ?_) (fun _ => ?_)
    · exact (gram_loop n m _ _ (q + 1) (hg.add (a.1, d.1) ⟨by show a.1.length ≤ 5; omega, by show d.1.length ≤ 5; omega⟩) (by omega) hd.2).mono fun r hr => ⟨hr.1.more (by omega), hr.2⟩
    · exact (gram_loop n m _ _ q hg (by omega) hd.2).mono fun r hr => ⟨hr.1.more (by omega), hr.2⟩
theorem gram_ev {m : Nat} {b : List Int} {p : Int} (hr : Rd (m + 30) b p) : EvP (fun k => spec_l1Gram k b p) (fun r => Gr 6 r.1 ∧ Rd m r.2.1 r.2.2) := by
  refine EvP.fn (fun k => spec_l1Gram_eq k _ _) (EvP.bind (pick_ev (m := m + 29) hr (by omega) (by omega)) fun a ha => EvP.dec (fun _ => ?_) (fun _ => ?_))
  · refine EvP.bind (num_ev (m := m + 28) ha.2.2 _ (by simp) (by simp)) fun c hc => EvP.bind (base_ev c.1) fun d hd => EvP.now ⟨hd, hc.2.less (by omega)⟩
  · refine EvP.bind (num_ev (m := m + 28) ha.2.2 _ (by simp) (by simp)) fun c hc => ?_
    have hcb : 0 ≤ c.1 ∧ c.1 ≤ 5 := by
      have := hc.1
      simp only [List.mem_cons, List.not_mem_nil, or_false] at this
      omega
    obtain ⟨N, hN⟩ := Int.eq_ofNat_of_zero_le hcb.1
    rw [hN]
    exact (gram_loop N m _ _ 0 ⟨by decide, by decide, by simp⟩ (by omega) (hc.2.less (by omega))).mono fun r hr => ⟨hr.1.more (by omega), hr.2⟩
theorem full_loop : ∀ (n m : Nat) {b : List Int} {p : Int} (x g : GramT) (q : Nat), Gr q g → 9 ≤ g.2.length + n → 9 ≤ q → Rd (m + 3 * n) b p →
    EvP (fun k => spec_l1Bent_L259582 k (b, p) x g) (fun r => Gr q r.1 ∧ Rd m r.2.1 r.2.2)
  | 0, m, b, p, x, g, q, hg, h, hq, hr => by
    refine EvP.fn (fun k => spec_l1Bent_L259582_eq k _ _ _) (EvP.decN (by omega) (EvP.now ⟨hg, hr⟩))
  | n + 1, m, b, p, x, g, q, hg, h, hq, hr => by
    refine EvP.fn (fun k => spec_l1Bent_L259582_eq k _ _ _) (EvP.dec (fun h8 => ?_) (fun _ => EvP.now ⟨hg, hr.less (by omega)⟩))
    refine EvP.bind (signed_ev (m := m + 3 * n) (n := 3) (by omega) (by omega) (by omega) (hr.less (by omega))) fun d hd => ?_
    refine EvP.yes (mG (by simp; omega)) ?_
    have hg8 : Gr 8 g := ⟨hg.1, by omega, hg.2.2⟩
    exact full_loop n m _ _ q ((hg8.add (_, d.1) ⟨by show 1 ≤ 5; decide, by show d.1.length ≤ 5; have := hd.1; omega⟩).more hq) (by simp; omega) hq hd.2
theorem lens {l : List (List UInt8)} {x : List UInt8} (h : x ∈ l) (hl : (l.all fun x => decide (x.length ≤ 5)) = true) : x.length ≤ 5 := of_decide_eq_true (List.all_eq_true.1 hl x h)
theorem bentG_ev {m : Nat} {b : List Int} {p : Int} (hr : Rd (m + 40) b p) (n : Nat) (hn : n ≤ 100) (h8 : 8 ≤ n) (g : GramT) (hg : Gr n g) : EvP (fun k => spec_l1Bent k b p g.1 g.2) (fun r => Gr (n + 1) r.1 ∧ Rd m r.2.1 r.2.2) := by
  have hg2 := hg.2.1
  refine EvP.fn (fun k => spec_l1Bent_eq k _ _ _ _) (EvP.yes (mG (by omega)) (EvP.bind (pick_ev (m := m + 39) hr (by omega) (by omega)) fun a ha => ?_))
  refine EvP.decF (fun _ => EvP.dec (fun _ => EvP.now ⟨hg.more (by omega), ha.2.2.less (by omega)⟩) (fun h0 => ?_)) (fun _ => EvP.now ⟨hg.more (by omega), ha.2.2.less (by omega)⟩)
  refine EvP.bind (pick_ev (m := m + 38) ha.2.2 (by omega) (by omega)) fun c hc => EvP.bind (pick_ev (m := m + 37) hc.2.2 (by omega) (by omega)) fun d hd => ?_
  have hat := hg.at c.1.toNat (by omega)
  refine EvP.dec (fun _ => ?_) (fun _ => EvP.dec (fun _ => ?_) (fun _ => EvP.dec (fun _ => ?_) (fun _ => EvP.dec (fun _ => ?_) (fun _ => ?_))))
  · exact EvP.bind (of_ev (m := m + 36) hd.2.2 _ (by simp) (by simp)) fun e he => EvP.now ⟨⟨lens he.1 (by decide), by show g.2.length ≤ n + 1; omega, hg.2.2⟩, he.2.less (by omega)⟩
  · refine EvP.bind (of_ev (m := m + 36) hd.2.2 _ (by simp) (by simp)) fun e he => ?_
    have hl := lens he.1 (by decide)
    exact EvP.yes hc.1 (EvP.yes hc.2.1 (EvP.now ⟨(hg.set _ (e.1, _) ⟨hl, hat.2⟩).more (by omega), he.2.less (by omega)⟩))
  · refine EvP.bind (of_ev (m := m + 36) hd.2.2 _ (by simp) (by simp)) fun e he => ?_
    have hl := lens he.1 (by decide)
    exact EvP.yes hc.1 (EvP.yes hc.2.1 (EvP.now ⟨(hg.set _ (_, e.1) ⟨hat.1, hl⟩).more (by omega), he.2.less (by omega)⟩))
  · exact EvP.yes hc.1 (EvP.yes hc.2.1 (EvP.yes (mG (by simp; omega)) (EvP.now ⟨hg.add _ hat, hd.2.2.less (by omega)⟩)))
  · exact (full_loop 9 m _ g (n + 1) (hg.more (by omega)) (by omega) (by omega) (hd.2.2.less (by omega)))
def signSmall (s : List UInt8) : Bool := match s with | [c] => small c | _ => false
theorem signSmall_ev (s : List UInt8) : EvP (fun k => spec_SignSmall k s) (fun r => r = signSmall s) := by
  refine EvP.fn (fun k => spec_SignSmall_eq k s) (EvP.dec (fun h => EvP.yes (by omega) (EvP.yes (by omega) (EvP.bind (l1Small_ev _) fun b hb => EvP.now ?_))) (fun h => EvP.now ?_))
  · match s, h with
    | [c], _ => exact hb
  · match s, h with
    | [], _ => rfl
    | [c], h => exact absurd rfl h
    | _ :: _ :: _, _ => rfl
theorem for_loop (s : List UInt8) (g : GramT) (hg : g.2.length ≤ 1000) : ∀ (n i : Nat) (l : List Int), i + n = g.2.length → l.length ≤ i → (∀ j ∈ l, 0 ≤ j ∧ j < g.2.length) →
    EvP (fun k => spec_l1For_L58 k s g l (i : Int)) (fun r => r.length ≤ g.2.length ∧ ∀ j ∈ r, 0 ≤ j ∧ j < g.2.length)
  | 0, i, l, h, hl, hj => by
    refine EvP.fn (fun k => spec_l1For_L58_eq k _ _ _ _) (EvP.decN (by omega) (EvP.now ⟨by omega, hj⟩))
  | n + 1, i, l, h, hl, hj => by
    refine EvP.fn (fun k => spec_l1For_L58_eq k _ _ _ _) (EvP.decY (by omega) (EvP.yes (by omega) (EvP.yes (by omega) ?_)))
    rw [w64 (by omega) (by omega)]
    refine EvP.dec (fun _ => EvP.yes (mG (by simp; omega)) ?_) (fun _ => ?_)
    · refine for_loop s _ hg n (i + 1) _ (by show i + 1 + n = g.2.length; omega) (by simp; omega) fun j hj' => ?_
      rcases List.mem_append.1 hj' with h' | h'
      · exact hj j h'
      · rw [List.mem_singleton.1 h']; constructor
        · omega
        · show (i : Int) < (g.2.length : Int); omega
    · exact for_loop s _ hg n (i + 1) _ (by show i + 1 + n = g.2.length; omega) (by omega) hj
theorem for_ev (g : GramT) (hg : g.2.length ≤ 1000) (s : List UInt8) : EvP (fun k => spec_l1For k g.1 g.2 s) (fun r => r.length ≤ g.2.length ∧ ∀ j ∈ r, 0 ≤ j ∧ j < g.2.length) :=
  EvP.fn (fun k => spec_l1For_eq k _ _ _) (for_loop s g hg g.2.length 0 [] (by omega) (by simp) (fun j h => absurd h List.not_mem_nil))
/-! trees drawn -/
/-- No deeper than n, few kids, short signs. -/
def Slim (w : Nat) : Nat → Tr → Prop
  | 0, _ => False
  | n + 1, t => t.s.length ≤ 5 ∧ -2 ≤ t.r ∧ t.r ≤ 1000 ∧ t.k.length ≤ w ∧ ∀ u ∈ t.k, Slim w n u
theorem Slim.more {w w' : Nat} (hw : w ≤ w') : ∀ {n n' : Nat} {t : Tr}, Slim w n t → n ≤ n' → Slim w' n' t
  | n + 1, n' + 1, t, h, hn => ⟨h.1, h.2.1, h.2.2.1, by have := h.2.2.2.1; omega, fun u hu => (h.2.2.2.2 u hu).more hw (by omega)⟩
theorem Slim.leaf {w n : Nat} {s : List UInt8} (hs : s.length ≤ 5) : Slim w (n + 1) (Tr.mk s (-1) []) :=
  ⟨hs, by show (-2 : Int) ≤ -1; decide, by show (-1 : Int) ≤ 1000; decide, Nat.zero_le _, fun u hu => absurd hu List.not_mem_nil⟩
def Rn : Nat → Nat | 0 => 0 | n + 1 => 1 + 5 * Rn n
theorem anyAt_loop (d : Nat) (hd : d ≤ 1000) (g : GramT) (hg : Gr 100 g)
    (ih : ∀ {m : Nat} {b : List Int} {p : Int}, Rd (m + Rn d) b p → ∀ (s : List UInt8), s.length ≤ 5 → ∀ deep : Int, deep ≤ d → EvP (fun k => spec_l3Any k b p g.1 g.2 s deep) (fun r => Slim 5 (d + 1) (Tr.mk r.1.1 r.1.2.1 r.1.2.2) ∧ Rd m r.2.1 r.2.2))
    (j : Int) (h0 : 0 ≤ j) (hj : j < g.2.length) (deep : Int) (h1 : 1 ≤ deep) (hdeep : deep ≤ d + 1) :
    ∀ (n i m : Nat) {b : List Int} {p : Int} (z t : List UInt8 × Int × List Tr), i + n = (g.2.getD j.toNat ([], [])).2.length → t.2.2.length = i → t.1.length ≤ 5 → -2 ≤ t.2.1 → t.2.1 ≤ 1000 → (∀ u ∈ t.2.2, Slim 5 (d + 1) u) → Rd (m + n * Rn d) b p →
    EvP (fun k => spec_l3Any_L2042 k (b, p) deep g z j t (i : Int)) (fun r => Slim 5 (d + 2) (Tr.mk r.1.1 r.1.2.1 r.1.2.2) ∧ Rd m r.2.1 r.2.2)
  | 0, i, m, b, p, z, t, h, ht, hs, hr1, hr2, hk, hr => by
    have hat := (hg.at j.toNat (by omega)).2
    refine EvP.fn (fun k => spec_l3Any_L2042_eq k _ _ _ _ _ _ _) (EvP.yes h0 (EvP.yes hj (EvP.decN (by omega) (EvP.now ⟨⟨hs, hr1, hr2, ?_, hk⟩, hr.less (by omega)⟩))))
    show t.2.2.length ≤ 5; omega
  | n + 1, i, m, b, p, z, t, h, ht, hs, hr1, hr2, hk, hr => by
    have hat := (hg.at j.toNat (by omega)).2
    have e1 : IntKind.i64.wrap ((i : Int) + 1) = ((i + 1 : Nat) : Int) := w64 (by omega) (by omega)
    have e2 : IntKind.i64.wrap (deep - 1) = deep - 1 := w64 (by omega) (by omega)
    refine EvP.fn (fun k => spec_l3Any_L2042_eq k _ _ _ _ _ _ _) (EvP.yes h0 (EvP.yes hj (EvP.decY (by omega) (EvP.yes h0 (EvP.yes hj ?_)))))
    rw [e1, e2]
    refine EvP.yes (by omega) (EvP.yes (by omega) (EvP.yes (by omega) ?_))
    have hm : m + (n + 1) * Rn d = m + n * Rn d + Rn d := by rw [Nat.succ_mul]; omega
    refine EvP.bind (ih (m := m + n * Rn d) (hm ▸ hr) _ (by rw [List.length_drop, List.length_take]; omega) (deep - 1) (by omega)) fun a ha => EvP.yes (mG (by simp; omega)) ?_
    refine anyAt_loop d hd g hg ih j h0 hj deep h1 hdeep n (i + 1) m _ _ (by omega) (by simp; omega) hs hr1 hr2 (fun u hu => ?_) ha.2
    rcases List.mem_append.1 hu with hu | hu
    · exact hk u hu
    · rw [List.mem_singleton.1 hu]; exact ha.1
theorem least_loop (d : Nat) (g : GramT) (hg : Gr 100 g) (l : List Int) (hl : ∀ j ∈ l, 0 ≤ j ∧ j < g.2.length) (hl2 : l.length ≤ 1000) (Q : ((List UInt8 × Int × List Tr) × List Int × Int) → Prop) (s : List UInt8) (deep : Int) (z : List UInt8 × Int × List Tr) (b : List Int) (p : Int)
    (nx : ∀ j : Int, 0 ≤ j → j < g.2.length → EvP (fun k => spec_l3Any_L127 k (b, p) s deep g z j) Q) : ∀ (n i : Nat) (j : Int), i + n = l.length → 0 ≤ j → j < g.2.length →
    EvP (fun k => spec_l3Any_L2026 k (b, p) s deep g z l j (i : Int)) Q
  | 0, i, j, h, h0, hj => EvP.fn (fun k => spec_l3Any_L2026_eq k _ _ _ _ _ _ _ _) (EvP.decN (by omega) (nx j h0 hj))
  | n + 1, i, j, h, h0, hj => by
    have hi := hl _ (getD_mem l i 0 (by omega))
    refine EvP.fn (fun k => spec_l3Any_L2026_eq k _ _ _ _ _ _ _ _) (EvP.decY (by omega) (EvP.yes (by omega) (EvP.yes (by omega) ?_)))
    rw [Int.toNat_natCast, w64 (by omega) (by omega)]
    refine EvP.yes hi.1 (EvP.yes hi.2 (EvP.yes h0 (EvP.yes hj (EvP.dec (fun _ => EvP.yes (by omega) (EvP.yes (by omega) ?_)) (fun _ => ?_)))))
    · exact least_loop d g hg l hl hl2 Q s deep z b p nx n (i + 1) _ (by omega) hi.1 hi.2
    · exact least_loop d g hg l hl hl2 Q s deep z b p nx n (i + 1) _ (by omega) h0 hj
theorem any_ev (g : GramT) (hg : Gr 100 g) : ∀ (d : Nat), d ≤ 1000 → ∀ {m : Nat} {b : List Int} {p : Int}, Rd (m + Rn d) b p → ∀ (s : List UInt8), s.length ≤ 5 → ∀ deep : Int, deep ≤ d →
    EvP (fun k => spec_l3Any k b p g.1 g.2 s deep) (fun r => Slim 5 (d + 1) (Tr.mk r.1.1 r.1.2.1 r.1.2.2) ∧ Rd m r.2.1 r.2.2) := by
  have hg2 := hg.2.1
  intro d
  induction d with
  | zero =>
    intro _ m b p hr s hs deep hd
    have z : Slim 5 1 (Tr.mk s (-1) []) := Slim.leaf hs
    refine EvP.fn (fun k => spec_l3Any_eq k _ _ _ _ _ _) (EvP.bind (signSmall_ev s) fun x hx => EvP.ite (fun _ => EvP.now ⟨z, hr.less (by omega)⟩) (fun _ => EvP.bind (for_ev g (by omega) s) fun l hl => ?_))
    exact EvP.decF (fun _ => EvP.decY (by omega) (EvP.now ⟨z, hr.less (by omega)⟩)) (fun _ => EvP.now ⟨z, hr.less (by omega)⟩)
  | succ d ih =>
    intro hd m b p hr s hs deep hdeep
    have z : Slim 5 (d + 2) (Tr.mk s (-1) []) := Slim.leaf hs
    refine EvP.fn (fun k => spec_l3Any_eq k _ _ _ _ _ _) (EvP.bind (signSmall_ev s) fun x hx => EvP.ite (fun _ => EvP.now ⟨z, hr.less (by omega)⟩) (fun _ => EvP.bind (for_ev g (by omega) s) fun l hl => ?_))
    refine EvP.decF (fun hl0 => EvP.dec (fun _ => EvP.now ⟨z, hr.less (by omega)⟩) (fun hdp => ?_)) (fun _ => EvP.now ⟨z, hr.less (by omega)⟩)
    have hR : Rn (d + 1) = 1 + 5 * Rn d := rfl
    refine EvP.bind (pick_ev (m := m + 5 * Rn d) (hr.less (by omega)) (by omega) (by omega)) fun c hc => EvP.yes hc.1 (EvP.yes hc.2.1 ?_)
    have hj := hl.2 _ (getD_mem l c.1.toNat 0 (by omega))
    have nx : ∀ j : Int, 0 ≤ j → j < g.2.length → EvP (fun k => spec_l3Any_L127 k (c.2.1, c.2.2) s deep g ([], 0, []) j) (fun r => Slim 5 (d + 2) (Tr.mk r.1.1 r.1.2.1 r.1.2.2) ∧ Rd m r.2.1 r.2.2) := fun j h0 hj => by
      have hat := (hg.at j.toNat (by omega)).2
      have hm : (g.2.getD j.toNat ([], [])).2.length * Rn d ≤ 5 * Rn d := Nat.mul_le_mul_right _ hat
      refine EvP.fn (fun k => spec_l3Any_L127_eq k _ _ _ _ _ _) ?_
      exact anyAt_loop d (by omega) g hg (fun hr => ih (by omega) hr) j h0 hj deep (by omega) (by omega) (g.2.getD j.toNat ([], [])).2.length 0 m _ (s, j, []) (by omega) rfl hs (by show -2 ≤ j; omega) (by show j ≤ 1000; omega) (fun u hu => absurd hu List.not_mem_nil) (hc.2.2.less (by omega))
    exact EvP.dec (fun _ => least_loop d g hg l hl.2 (by omega) _ s deep _ _ _ nx l.length 0 _ (by omega) hj.1 hj.2) (fun _ => nx _ hj.1 hj.2)
theorem some3_ev {m : Nat} {b : List Int} {p : Int} (hr : Rd (m + 1000000) b p) : EvP (fun k => spec_l3Some k b p) (fun r => Gr 10 r.1 ∧ Slim 6 10 r.2.1 ∧ Rd m r.2.2.1 r.2.2.2) := by
  have hR : Rn 8 = 97656 := by decide
  refine EvP.fn (fun k => spec_l3Some_eq k _ _) (EvP.bind (gram_ev (m := m + 900000) (hr.less (by omega))) fun g hg => EvP.bind (num_ev (m := m + 800000) (hg.2.less (by omega)) _ (by simp) (by simp)) fun a ha => ?_)
  have had : a.1 ≤ 8 := by
    have := ha.1
    simp only [List.mem_cons, List.not_mem_nil, or_false] at this
    omega
  refine EvP.bind (any_ev g.1 (hg.1.more (by omega)) 8 (by omega) (m := m + 600000) (ha.2.less (by omega)) g.1.1 hg.1.1 a.1 had) fun t ht => ?_
  refine EvP.bind (pick_ev (m := m + 500000) (ht.2.less (by omega)) (by omega) (by omega)) fun c hc => ?_
  obtain ⟨t1, t2, t3, t4', t5'⟩ := ht.1
  have t4' : t.1.2.2.length ≤ 5 := t4'
  have t4 := Nat.le_succ_of_le t4'
  have t5 : ∀ u ∈ t.1.2.2, Slim 6 9 u := fun u hu => (t5' u hu).more (by decide) (by decide)
  have hg10 := hg.1.more (show 6 ≤ 10 by omega)
  refine EvP.dec (fun _ => ?_) (fun _ => EvP.dec (fun _ => ?_) (fun _ => EvP.dec (fun _ => ?_) (fun _ => EvP.dec (fun _ => ?_) (fun _ => ?_))))
  · refine EvP.bind (num_ev (m := m + 400000) (hc.2.2.less (by omega)) _ (by simp) (by simp)) fun e he => EvP.now ⟨hg10, ⟨t1, ?_, ?_, t4, t5⟩, he.2.less (by omega)⟩
    all_goals
      have := he.1
      simp only [List.mem_cons, List.not_mem_nil, or_false] at this
      show _ ≤ _
      first | (show -2 ≤ e.1; omega) | (show e.1 ≤ 1000; omega)
  · refine EvP.bind (of_ev (m := m + 400000) (hc.2.2.less (by omega)) _ (by simp) (by simp)) fun e he => ?_
    have hl := lens he.1 (by decide)
    exact EvP.now ⟨hg10, ⟨hl, t2, t3, t4, t5⟩, he.2.less (by omega)⟩
  · refine EvP.yes (mG (by simp; omega)) (EvP.now ⟨hg10, ⟨t1, t2, t3, ?_, fun u hu => ?_⟩, hc.2.2.less (by omega)⟩)
    · show (t.1.2.2 ++ _).length ≤ 6
      simp; omega
    · rcases List.mem_append.1 hu with hu | hu
      · exact t5 u hu
      · rw [List.mem_singleton.1 hu]; exact Slim.leaf (by decide)
  · refine EvP.bind (bentG_ev (m := m + 400000) (hc.2.2.less (by omega)) 8 (by omega) (by omega) g.1 (hg.1.more (by omega))) fun e he => EvP.bind (bentG_ev (m := m + 300000) (he.2.less (by omega)) 9 (by omega) (by omega) e.1 he.1) fun f hf => ?_
    exact EvP.now ⟨hf.1, ⟨t1, t2, t3, t4, t5⟩, hf.2.less (by omega)⟩
  · exact EvP.now ⟨hg10, ⟨t1, t2, t3, t4, t5⟩, hc.2.2.less (by omega)⟩
/-! trees compared -/
theorem sameI_ev : ∀ (n : Nat) (a : Tr), Slim 6 n a → ∀ c : Tr, EvP (fun k => impl_TreeSame k a.s a.r a.k c.s c.r c.k) (fun r => r = true ↔ a = c)
  | n + 1, a, h, c => by
    obtain ⟨_, _, _, h4, h5⟩ := h
    have loop : ∀ (q i : Nat), i + q = a.k.length → a.k.length = c.k.length → EvP (fun k => slices_EqualFunc_Simpl_Tree_Simpl_Tree_impl_Tree_impl_Tree_L58 k c.k a.k (a.k.length : Int) (i : Int)) (fun r => r = true ↔ a.k.drop i = c.k.drop i) := by
      intro q
      induction q with
      | zero =>
        intro i hi hl
        refine EvP.fn (fun k => slices_EqualFunc_Simpl_Tree_Simpl_Tree_impl_Tree_impl_Tree_L58_eq k _ _ _ _) (EvP.decN (by omega) (EvP.now ?_))
        rw [List.drop_eq_nil_of_le (by omega), List.drop_eq_nil_of_le (by omega)]; simp
      | succ q ih =>
        intro i hi hl
        refine EvP.fn (fun k => slices_EqualFunc_Simpl_Tree_Simpl_Tree_impl_Tree_impl_Tree_L58_eq k _ _ _ _) (EvP.decY (by omega) (EvP.yes (by omega) (EvP.yes (by omega) (EvP.yes (by omega) (EvP.yes (by omega) ?_)))))
        rw [Int.toNat_natCast, drop_cons a.k i (Tr.mk [] 0 []) (by omega), drop_cons c.k i (Tr.mk [] 0 []) (by omega)]
        refine EvP.bind (sameI_ev n (a.k.getD i (Tr.mk [] 0 [])) (h5 _ (getD_mem _ _ _ (by omega))) (c.k.getD i (Tr.mk [] 0 []))) fun x hx => ?_
        refine EvP.ite (fun hf => EvP.now ?_) (fun ht => ?_)
        · have hf : x = false := by simpa using hf
          subst hf
          exact ⟨fun h => by simp at h, fun h => absurd (hx.2 (List.cons.inj h).1) (by simp)⟩
        · have ht : x = true := by simpa using ht
          rw [w64 (by omega) (by omega), hx.1 ht]
          refine (ih (i + 1) (by omega) hl).mono fun r hr => ?_
          rw [hr, List.cons.injEq]; simp
    refine EvP.fn (fun k => impl_TreeSame_eq k _ _ _ _ _ _) (EvP.dec (fun e1 => EvP.dec (fun e2 => ?_) (fun e2 => EvP.now ?_)) (fun e1 => EvP.now ?_))
    · refine EvP.bind (P := fun r => r = true ↔ a.k = c.k) (EvP.fn (fun k => slices_EqualFunc_Simpl_Tree_Simpl_Tree_impl_Tree_impl_Tree_eq k _ _) (EvP.notT (fun h => EvP.now ?_) (fun h => ?_))) fun x hx => EvP.now ?_
      · exact ⟨fun h => by simp at h, fun e => absurd (by rw [e]) h⟩
      · exact (loop a.k.length 0 (by omega) (by omega)).mono fun r hr => hr
      · rw [hx]
        exact ⟨fun h => match a, c, e1, e2, h with | Tr.mk _ _ _, Tr.mk _ _ _, rfl, rfl, rfl => rfl, fun h => by rw [h]⟩
    · exact ⟨fun h => by simp at h, fun h => absurd (by rw [h]) e2⟩
    · exact ⟨fun h => by simp at h, fun h => absurd (by rw [h]) e1⟩
theorem sameS_ev : ∀ (n : Nat) (a : Tr), Slim 6 n a → ∀ c : Tr, EvP (fun k => spec_TreeSame k a.s a.r a.k c.s c.r c.k) (fun r => r = true ↔ a = c)
  | n + 1, a, h, c => by
    obtain ⟨_, _, _, h4, h5⟩ := h
    have loop : ∀ (q i : Nat), i + q = a.k.length → a.k.length = c.k.length → EvP (fun k => spec_TreeSame_L58 k (a.s, a.r, a.k) (c.s, c.r, c.k) (i : Int)) (fun r => r = true ↔ a.k.drop i = c.k.drop i) := by
      intro q
      induction q with
      | zero =>
        intro i hi hl
        refine EvP.fn (fun k => spec_TreeSame_L58_eq k _ _ _) (EvP.decN (by show ¬ (i : Int) < (a.k.length : Int); omega) (EvP.now ?_))
        rw [List.drop_eq_nil_of_le (by omega), List.drop_eq_nil_of_le (by omega)]; simp
      | succ q ih =>
        intro i hi hl
        have hi1 : (i : Int) < (a.k.length : Int) := by omega
        have hi2 : (i : Int) < (c.k.length : Int) := by omega
        refine EvP.fn (fun k => spec_TreeSame_L58_eq k _ _ _) (EvP.decY hi1 (EvP.yes (by omega) (EvP.yes hi1 (EvP.yes (by omega) (EvP.yes hi2 ?_)))))
        rw [Int.toNat_natCast, drop_cons a.k i (Tr.mk [] 0 []) (by omega), drop_cons c.k i (Tr.mk [] 0 []) (by omega)]
        refine EvP.bind (sameS_ev n (a.k.getD i (Tr.mk [] 0 [])) (h5 _ (getD_mem _ _ _ (by omega))) (c.k.getD i (Tr.mk [] 0 []))) fun x hx => ?_
        refine EvP.ite (fun hf => EvP.now ?_) (fun ht => ?_)
        · have hf : x = false := by simpa using hf
          subst hf
          exact ⟨fun h => by simp at h, fun h => absurd (hx.2 (List.cons.inj h).1) (by simp)⟩
        · have ht : x = true := by simpa using ht
          rw [w64 (by omega) (by omega), hx.1 ht]
          refine (ih (i + 1) (by omega) hl).mono fun r hr => ?_
          rw [hr, List.cons.injEq]; simp
    refine EvP.fn (fun k => spec_TreeSame_eq k _ _ _ _ _ _) (EvP.notF (fun e1 => EvP.notF (fun e2 => EvP.notT (fun h => EvP.now ?_) (fun h => ?_)) (fun e2 => EvP.now ?_)) (fun e1 => EvP.now ?_))
    · exact ⟨fun h => by simp at h, fun e => absurd (by rw [e]) h⟩
    · refine (loop a.k.length 0 (by omega) (by omega)).mono fun r hr => ?_
      rw [hr]
      exact ⟨fun h => match a, c, e1, e2, h with | Tr.mk _ _ _, Tr.mk _ _ _, rfl, rfl, rfl => rfl, fun h => by rw [h]⟩
    · exact ⟨fun h => by simp at h, fun h => absurd (by rw [h]) e2⟩
    · exact ⟨fun h => by simp at h, fun h => absurd (by rw [h]) e1⟩
theorem draw_ev (l : List Int) (h : ∀ x ∈ l, (Lit.int .u8 x).wf = true) : EvP (fun k => spec_DrawTreeSame k l) (fun r => Slim 6 10 r.1 ∧ Slim 6 10 r.2) := by
  refine EvP.fn (fun k => spec_DrawTreeSame_eq k _) (EvP.bind (open_ev l h) fun o ho => EvP.bind (some3_ev (m := 3000000) (ho.less (by omega))) fun s hs => EvP.bind (pick_ev (m := 2000000) (hs.2.2.less (by omega)) (by omega) (by omega)) fun c hc => ?_)
  obtain ⟨hg, ht, _⟩ := hs
  have hR : Rn 4 = 156 := by decide
  refine EvP.dec (fun _ => ?_) (fun _ => EvP.dec (fun hk => EvP.bind (pick_ev (m := 1000000) (hc.2.2.less (by omega)) (by omega) (by omega)) fun d hd => ?_) (fun _ => EvP.now ⟨ht, ht⟩))
  · refine EvP.bind (num_ev (m := 1000000) (hc.2.2.less (by omega)) _ (by simp) (by simp)) fun d hd => ?_
    have hdb : d.1 ≤ 4 := by
      have := hd.1
      simp only [List.mem_cons, List.not_mem_nil, or_false] at this
      omega
    exact EvP.bind (any_ev s.1 (hg.more (by omega)) 4 (by omega) (m := 1000) (hd.2.less (by omega)) s.1.1 hg.1 d.1 hdb) fun t ht' => EvP.now ⟨ht, ht'.1.more (by decide) (by decide)⟩
  · obtain ⟨t1, t2, t3, t4, t5⟩ := ht
    refine EvP.dec (fun _ => EvP.yes (mG (by omega)) (EvP.bind (num_ev (m := 1000) (hd.2.2.less (by omega)) _ (by simp) (by simp)) fun e he => EvP.yes (by omega) (EvP.yes hk (EvP.now ⟨⟨t1, t2, t3, t4, t5⟩, t1, t2, t3, ?_, fun u hu => ?_⟩)))) (fun _ => EvP.now ⟨⟨t1, t2, t3, t4, t5⟩, t1, t2, t3, t4, t5⟩)
    · show (List.set _ _ _).length ≤ 6
      rw [List.length_set]; exact t4
    · rcases List.mem_or_eq_of_mem_set hu with hu | hu
      · exact t5 u hu
      · have h0 := t5 _ (getD_mem s.2.1.k (Int.toNat 0) (Tr.mk [] 0 []) (by simp; omega))
        rw [hu]
        refine ⟨h0.1, ?_, ?_, h0.2.2.2.1, h0.2.2.2.2⟩
        all_goals
          have := he.1
          simp only [List.mem_cons, List.not_mem_nil, or_false] at this
          first | (show -2 ≤ e.1; omega) | (show e.1 ≤ 1000; omega)
theorem law_ev (l : List Int) (h : ∀ x ∈ l, (Lit.int .u8 x).wf = true) : EvP (fun k => laws_FnTreeSame k l) (fun r => r = true) := by
  refine EvP.fn (fun k => laws_FnTreeSame_eq k _) (EvP.dec (fun _ => EvP.now rfl) (fun _ => EvP.bind (draw_ev l h) fun x hx => ?_))
  obtain ⟨ha, hb⟩ := hx
  have ha4 := ha.2.2.2.1
  have ne : ∀ {p q : Bool} {P : Prop}, (p = true ↔ P) → (q = true ↔ P) → p = q := fun {p q P} h h' => by
    cases p <;> cases q <;> simp_all
  refine EvP.bind (sameI_ev _ x.1 ha x.2) fun p1 h1 => EvP.bind (sameS_ev _ x.1 ha x.2) fun p2 h2 => EvP.notF (fun _ => ?_) (fun h => absurd (ne h1 h2) h)
  refine EvP.bind (sameI_ev _ x.1 ha x.2) fun p3 h3 => EvP.bind (sameI_ev _ x.2 hb x.1) fun p4 h4 => EvP.notF (fun _ => ?_) (fun h => absurd (ne h3 (h4.trans ⟨fun e => e.symm, fun e => e.symm⟩)) h)
  refine EvP.bind (sameI_ev _ x.1 ha x.1) fun p5 h5 => ?_
  have e5 : p5 = true := h5.2 rfl
  subst e5
  refine EvP.no (by simp) (EvP.yes (mG (by omega)) (EvP.yes (mG (by simp; omega)) ?_))
  refine EvP.bind (sameI_ev _ x.1 ha (Tr.mk x.1.s x.1.r (x.1.k ++ [Tr.mk [] 0 []]))) fun p6 h6 => ?_
  have e6 : p6 = false := by
    cases p6 with
    | false => rfl
    | true =>
      have := congrArg (fun t : Tr => t.k.length) (h6.1 rfl)
      simp at this
  subst e6
  refine EvP.yes rfl (EvP.bind (sameI_ev _ x.1 ha (Tr.mk x.1.s (IntKind.i64.wrap (x.1.r + 1)) x.1.k)) fun p7 h7 => EvP.now ?_)
  cases p7 with
  | false => rfl
  | true =>
    have := congrArg Tr.r (h7.1 rfl)
    rw [w64 (by have := ha.2.1; omega) (by have := ha.2.2.1; omega)] at this
    have : x.1.r = x.1.r + 1 := this
    omega
end Go.Proofs.Ytjdihogbghcajaa.Pure
