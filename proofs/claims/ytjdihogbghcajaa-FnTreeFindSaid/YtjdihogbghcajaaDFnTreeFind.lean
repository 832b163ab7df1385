/- What the reader of draws answers: they answer, and within which bounds. -/
import Derived.Test.YtjdihogbghcajaaEv
import Derived.Test.YtjdihogbghcajaaEqFnTreeFind
namespace Go.Proofs.Ytjdihogbghcajaa.Pure
open Go Go.Proofs.Ytjdihogbghcajaa.Eng Go.Proofs.Ytjdihogbghcajaa.Eq Go.Proofs.Ytjdihogbghcajaa.Ev
set_option autoImplicit false
set_option linter.unusedVariables false
set_option linter.unusedSimpArgs false
set_option linter.unnecessarySimpa false

def Bytes (s : List Int) : Prop := (∀ x ∈ s, 0 ≤ x ∧ x ≤ 255) ∧ s.length ≤ 2000
/-- A reader, m draws ahead. -/
def Rd (m : Nat) (b : List Int) (p : Int) : Prop := Bytes b ∧ 0 ≤ p ∧ p + m ≤ 100000000
theorem Rd.less {m n : Nat} {b : List Int} {p : Int} (h : Rd m b p) (hn : n ≤ m) : Rd n b p := ⟨h.1, h.2.1, by have := h.2.2; omega⟩

theorem open_ev (l : List Int) (h : ∀ x ∈ l, (Lit.int .u8 x).wf = true) : EvP (fun k => spec_l17Open k l) (fun r => Rd 100000000 r.1 r.2) := by
  refine EvP.fn (fun k => spec_l17Open_eq k l) (EvP.dec (fun h1 => ?_) (fun h1 => ?_))
  · refine EvP.yes (by omega) (EvP.yes (by omega) (EvP.yes (by omega) (EvP.now ⟨⟨fun x hx => wf_byte (h x ?_), ?_⟩, by simp, by simp⟩)))
    · exact List.mem_of_mem_take (List.mem_of_mem_drop hx)
    · simp; omega
  · exact EvP.now ⟨⟨fun x hx => wf_byte (h x hx), by show l.length ≤ 2000; omega⟩, by simp, by simp⟩

theorem pick_ev {m : Nat} {b : List Int} {p : Int} (hr : Rd (m + 1) b p) {n : Int} (hn : 1 ≤ n) (hn2 : n ≤ 1000000000) :
    EvP (fun k => spec_l17Rd_pick k b p n) (fun r => 0 ≤ r.1 ∧ r.1 < n ∧ Rd m r.2.1 r.2.2) := by
  obtain ⟨⟨hb, hl⟩, hp, hp2⟩ := hr
  have e1 : IntKind.i64.wrap (p + 1) = p + 1 := w64 (by omega) (by omega)
  have e2 : IntKind.i64.wrap (p + 1 - 1) = p := by rw [w64 (by omega) (by omega)]; omega
  have fin : ∀ x : Int, 0 ≤ x ∧ x < n → (0 ≤ (x, b, p + 1).1 ∧ (x, b, p + 1).1 < n ∧ Rd m (x, b, p + 1).2.1 (x, b, p + 1).2.2) := fun x h => ⟨h.1, h.2, ⟨hb, hl⟩, by show 0 ≤ p + 1; omega, by show p + 1 + m ≤ 100000000; omega⟩
  refine EvP.fn (fun k => spec_l17Rd_pick_eq k b p n) ?_
  rw [e1, e2]
  refine EvP.decF (fun _ => ?_) (fun h => absurd h (by omega))
  refine EvP.dec (fun h0 => EvP.now (fin 0 (by omega))) (fun h0 => ?_)
  refine EvP.dec (fun h1 => ?_) (fun h1 => ?_)
  · refine EvP.yes hp (EvP.yes h1 (EvP.no (by omega) (EvP.now (fin _ ?_))))
    have hx := getD_byte hb p.toNat
    rw [w64 (by omega) (by omega)]
    exact tmod_range _ n hx.1 hn
  · have hL : (1 : Int) ≤ b.length := by omega
    have t1 := tmod_range p b.length hp hL
    have e3 : IntKind.i64.wrap (p * 7) = p * 7 := w64 (by omega) (by omega)
    have e4 : IntKind.i64.wrap (p * 7 + 3) = p * 7 + 3 := w64 (by omega) (by omega)
    have t2 := tmod_range (p * 7 + 3) b.length (by omega) hL
    rw [e3, e4]
    refine EvP.no (by omega) (EvP.yes t1.1 (EvP.yes t1.2 (EvP.no (by omega) (EvP.yes t2.1 (EvP.yes t2.2 (EvP.no (by omega) (EvP.no (by omega) (EvP.now (fin _ ?_)))))))))
    generalize hA : b.getD (p.tmod b.length).toNat 0 = A
    generalize hB : b.getD ((p * 7 + 3).tmod b.length).toNat 0 = B'
    have hA' := getD_byte hb (p.tmod b.length).toNat
    have hB' := getD_byte hb ((p * 7 + 3).tmod b.length).toNat
    rw [hA] at hA'
    rw [hB] at hB'
    have hq : 0 ≤ Int.tdiv p b.length ∧ Int.tdiv p b.length ≤ p := ⟨Int.tdiv_nonneg hp (by omega), by
      rw [Int.tdiv_eq_ediv_of_nonneg hp]; exact Int.ediv_le_self _ hp⟩
    generalize Int.tdiv p b.length = Q at hq
    rw [w64 (x := A) (by omega) (by omega), w64 (x := B') (by omega) (by omega), w64 (x := A * 131) (by omega) (by omega), w64 (x := B' * 1117) (by omega) (by omega), w64 (x := p * 29) (by omega) (by omega), w64 (x := Q) (by omega) (by omega), w64 (x := Q * 53) (by omega) (by omega), w64 (x := A * 131 + B' * 1117) (by omega) (by omega), w64 (x := A * 131 + B' * 1117 + p * 29) (by omega) (by omega), w64 (x := A * 131 + B' * 1117 + p * 29 + Q * 53) (by omega) (by omega)]
    generalize hX : A * 131 + B' * 1117 + p * 29 + Q * 53 = X
    have hX1 : 0 ≤ X ∧ X ≤ 100000000000 := by omega
    have hd : 0 ≤ Int.tdiv X 64 ∧ Int.tdiv X 64 ≤ X := ⟨Int.tdiv_nonneg hX1.1 (by omega), by
      rw [Int.tdiv_eq_ediv_of_nonneg hX1.1]; exact Int.ediv_le_self _ hX1.1⟩
    generalize Int.tdiv X 64 = Y at hd
    rw [w64 (x := Y) (by omega) (by omega)]
    exact tmod_range (bxor X Y) n (xor_nonneg X Y (by omega) (by omega) (by omega) (by omega)) hn
theorem num_ev {m : Nat} {b : List Int} {p : Int} (hr : Rd (m + 1) b p) (l : List Int) (hl : 1 ≤ l.length) (hl2 : l.length ≤ 1000) :
    EvP (fun k => spec_l17Rd_num k b p l) (fun r => r.1 ∈ l ∧ Rd m r.2.1 r.2.2) := by
  refine EvP.fn (fun k => spec_l17Rd_num_eq k b p l) (EvP.bind (pick_ev hr (n := l.length) (by omega) (by omega)) fun a ha => ?_)
  exact EvP.yes ha.1 (EvP.yes ha.2.1 (EvP.now ⟨getD_mem _ _ _ (by omega), ha.2.2⟩))
theorem of_ev {m : Nat} {b : List Int} {p : Int} (hr : Rd (m + 1) b p) (l : List (List UInt8)) (hl : 1 ≤ l.length) (hl2 : l.length ≤ 1000) :
    EvP (fun k => spec_l17Rd_of k b p l) (fun r => r.1 ∈ l ∧ Rd m r.2.1 r.2.2) := by
  refine EvP.fn (fun k => spec_l17Rd_of_eq k b p l) (EvP.bind (pick_ev hr (n := l.length) (by omega) (by omega)) fun a ha => ?_)
  exact EvP.yes ha.1 (EvP.yes ha.2.1 (EvP.now ⟨getD_mem _ _ _ (by omega), ha.2.2⟩))
/-! signs -/
def small (c : UInt8) : Bool := decide (97 ≤ c.toNat) && decide (c.toNat ≤ 100)
theorem l1Small_ev (c : UInt8) : EvP (fun k => spec_l1Small k ((c.toNat : Nat) : Int)) (fun r => r = small c) := by
  refine EvP.fn (fun k => spec_l1Small_eq k _) (EvP.dec (fun h => EvP.now ?_) (fun h => EvP.now ?_))
  · have h1 : 97 ≤ c.toNat := by omega
    have e : decide ((c.toNat : Int) ≤ 100) = decide (c.toNat ≤ 100) := by congr 1; exact propext ⟨fun h => by omega, fun h => by omega⟩
    rw [e]; simp [small, h1]
  · have h1 : ¬ 97 ≤ c.toNat := by omega
    simp [small, h1]
theorem drop_cons {α : Type} (l : List α) (i : Nat) (d : α) (h : i < l.length) : l.drop i = l.getD i d :: l.drop (i + 1) := by
  rw [List.drop_eq_getElem_cons h, List.getD_eq_getElem?_getD, List.getElem?_eq_getElem h]; rfl
/-! grammars drawn -/
abbrev GramT := List UInt8 × List (List UInt8 × List UInt8)
/-- At most n rules, all short. -/
def Gr (n : Nat) (g : GramT) : Prop := g.1.length ≤ 5 ∧ g.2.length ≤ n ∧ ∀ x ∈ g.2, x.1.length ≤ 5 ∧ x.2.length ≤ 5
theorem mG {n : Nat} (h : n ≤ 1000000) : n < maxLenE := by unfold maxLenE; omega
theorem Gr.more {n m : Nat} {g : GramT} (h : Gr n g) (hm : n ≤ m) : Gr m g := ⟨h.1, by have := h.2.1; omega, h.2.2⟩
theorem Gr.add {n : Nat} {g : GramT} (h : Gr n g) (x : List UInt8 × List UInt8) (hx : x.1.length ≤ 5 ∧ x.2.length ≤ 5) : Gr (n + 1) (g.1, g.2 ++ [x]) :=
  ⟨h.1, by have := h.2.1; simp; omega, fun y hy => by
    rcases List.mem_append.1 hy with hy | hy
    · exact h.2.2 y hy
    · rw [List.mem_singleton.1 hy]; exact hx⟩
theorem Gr.set {n : Nat} {g : GramT} (h : Gr n g) (i : Nat) (x : List UInt8 × List UInt8) (hx : x.1.length ≤ 5 ∧ x.2.length ≤ 5) : Gr n (g.1, g.2.set i x) :=
  ⟨h.1, by have := h.2.1; simp; omega, fun y hy => by
    rcases List.mem_or_eq_of_mem_set hy with hy | hy
    · exact h.2.2 y hy
    · rw [hy]; exact hx⟩
theorem Gr.at {n : Nat} {g : GramT} (h : Gr n g) (i : Nat) (hi : i < g.2.length) : (g.2.getD i ([], [])).1.length ≤ 5 ∧ (g.2.getD i ([], [])).2.length ≤ 5 := h.2.2 _ (getD_mem _ _ _ hi)
theorem signed_loop : ∀ (n m : Nat) {b : List Int} {p : Int} (t : List UInt8) (i N : Int), i + n = N → 0 ≤ i → N ≤ 1000 → Rd (m + n) b p → t.length ≤ i → EvP (fun k => spec_l1Signed_L58 k (b, p) N t i) (fun r => r.1.length ≤ N ∧ Rd m r.2.1 r.2.2)
  | 0, m, b, p, t, i, N, h, h0, hN, hr, ht => by
    refine EvP.fn (fun k => spec_l1Signed_L58_eq k _ _ _ _) (EvP.decN (by omega) (EvP.now ⟨by show (t.length : Int) ≤ N; omega, hr⟩))
  | n + 1, m, b, p, t, i, N, h, h0, hN, hr, ht => by
    refine EvP.fn (fun k => spec_l1Signed_L58_eq k _ _ _ _) (EvP.decY (by omega) ?_)
    refine EvP.bind (of_ev (m := m + n) (hr.less (by omega)) _ (by simp) (by simp)) fun a ha => ?_
    have hl : a.1.length = 1 := by
      have := ha.1
      simp only [List.mem_cons, List.not_mem_nil, or_false] at this
      rcases this with h | h | h | h | h | h | h | h | h <;> rw [h] <;> rfl
    refine EvP.yes (by omega) ?_
    rw [w64 (by omega) (by omega)]
    exact signed_loop n m _ (i + 1) N (by omega) (by omega) hN ha.2 (by simp [hl]; omega)
theorem signed_ev {m n : Nat} {b : List Int} {p : Int} {N : Int} (h0 : 0 ≤ N) (hN : N ≤ n) (hn : n ≤ 1000) (hr : Rd (m + n) b p) : EvP (fun k => spec_l1Signed k b p N) (fun r => r.1.length ≤ N ∧ Rd m r.2.1 r.2.2) := by
  obtain ⟨N', rfl⟩ := Int.eq_ofNat_of_zero_le h0
  exact EvP.fn (fun k => spec_l1Signed_eq k _ _ _) (signed_loop N' m [] 0 _ (by omega) (by omega) (by omega) (hr.less (by omega)) (by simp))
theorem place_loop (l : List (List UInt8 × List UInt8)) (hl : l.length ≤ 1000) (x : List UInt8 × List UInt8) : ∀ (n i : Nat), i + n = l.length → EvP (fun k => spec_l1Place_L26 k l x (i : Int)) (fun r => r < 0 ↔ x ∉ l.drop i)
  | 0, i, h => by
    refine EvP.fn (fun k => spec_l1Place_L26_eq k _ _ _) (EvP.decN (by omega) (EvP.now ?_))
    rw [List.drop_eq_nil_of_le (by omega)]
    exact ⟨fun _ h => absurd h List.not_mem_nil, fun _ => by decide⟩
  | n + 1, i, h => by
    refine EvP.fn (fun k => spec_l1Place_L26_eq k _ _ _) (EvP.decY (by omega) (EvP.yes (by omega) (EvP.yes (by omega) ?_)))
    rw [Int.toNat_natCast, drop_cons l i ([], []) (by omega)]
    refine EvP.ite (fun h' => EvP.now ?_) (fun h' => ?_)
    · simp only [Bool.and_eq_true, decide_eq_true_eq] at h'
      have e : x = l.getD i ([], []) := Prod.ext h'.1.symm h'.2.symm
      exact ⟨fun h => absurd h (by omega), fun h => absurd (e ▸ List.mem_cons_self) h⟩
    · have e : ¬ x = l.getD i ([], []) := fun e => h' (by rw [← e]; simp)
      rw [w64 (by omega) (by omega)]
      refine (place_loop l hl x n (i + 1) (by omega)).mono fun r hr => ?_
      rw [hr, List.mem_cons, not_or]
      exact ⟨fun h => ⟨e, h⟩, fun h => h.2⟩
theorem place_ev (l : List (List UInt8 × List UInt8)) (hl : l.length ≤ 1000) (x y : List UInt8) : EvP (fun k => spec_l1Place k l x y) (fun r => r < 0 ↔ (x, y) ∉ l) := by
  refine EvP.fn (fun k => spec_l1Place_eq k _ _ _) ((place_loop l hl (x, y) l.length 0 (by omega)).mono fun r hr => ?_)
  rw [hr, List.drop_zero]
theorem base_ev (n : Int) : EvP (fun k => spec_l1Base k n) (fun r => Gr 6 r) := by
  refine EvP.fn (fun k => spec_l1Base_eq k _) ?_
  refine EvP.dec (fun _ => EvP.now ?_) (fun _ => EvP.dec (fun _ => EvP.now ?_) (fun _ => EvP.dec (fun _ => EvP.now ?_) (fun _ => EvP.dec (fun _ => EvP.now ?_) (fun _ => EvP.dec (fun _ => EvP.now ?_) (fun _ => EvP.dec (fun _ => EvP.now ?_) (fun _ => EvP.dec (fun _ => EvP.now ?_) (fun _ => EvP.now ?_)))))))
  all_goals (unfold Gr; decide)
theorem gram_loop : ∀ (n m : Nat) {b : List Int} {p : Int} (x g : GramT) (q : Nat), Gr q g → q + n ≤ 100 → Rd (m + 5 * n) b p →
    EvP (fun k => spec_l1Gram_L122 k (b, p) x g (n : Int)) (fun r => Gr (q + n) r.1 ∧ Rd m r.2.1 r.2.2)
  | 0, m, b, p, x, g, q, hg, hq, hr => by
    refine EvP.fn (fun k => spec_l1Gram_L122_eq k _ _ _ _) (EvP.decN (by omega) (EvP.now ⟨hg, hr⟩))
  | n + 1, m, b, p, x, g, q, hg, hq, hr => by
    have hg2 := hg.2.1
    refine EvP.fn (fun k => spec_l1Gram_L122_eq k _ _ _ _) (EvP.decY (by omega) ?_)
    refine EvP.bind (of_ev (m := m + 5 * n + 4) (hr.less (by omega)) _ (by simp) (by simp)) fun a ha => ?_
    have hl : a.1.length = 1 := by
      have := ha.1
      simp only [List.mem_cons, List.not_mem_nil, or_false] at this
      rcases this with h | h | h | h <;> rw [h] <;> rfl
    refine EvP.bind (num_ev (m := m + 5 * n + 3) (ha.2.less (by omega)) _ (by simp) (by simp)) fun c hc => ?_
    have hcb : 0 ≤ c.1 ∧ c.1 ≤ 3 := by
      have := hc.1
      simp only [List.mem_cons, List.not_mem_nil, or_false] at this
      omega
    refine EvP.bind (signed_ev (m := m + 5 * n) (n := 3) hcb.1 (by omega) (by omega) (hc.2.less (by omega))) fun d hd => ?_
    refine EvP.bind (place_ev g.2 (by omega) a.1 d.1) fun e he => ?_
    have e1 : IntKind.i64.wrap (((n + 1 : Nat) : Int) - 1) = (n : Int) := by rw [w64 (by omega) (by have := hr.2.2; omega)]; omega
    rw [e1]
    refine EvP.dec (fun _ => EvP.yes (mG (by simp; omega)) ?_) (fun _ => ?_)
    · exact (gram_loop n m _ _ (q + 1) (hg.add (a.1, d.1) ⟨by show a.1.length ≤ 5; omega, by show d.1.length ≤ 5; omega⟩) (by omega) hd.2).mono fun r hr => ⟨hr.1.more (by omega), hr.2⟩
    · exact (gram_loop n m _ _ q hg (by omega) hd.2).mono fun r hr => ⟨hr.1.more (by omega), hr.2⟩
theorem gram_ev {m : Nat} {b : List Int} {p : Int} (hr : Rd (m + 30) b p) : EvP (fun k => spec_l1Gram k b p) (fun r => Gr 6 r.1 ∧ Rd m r.2.1 r.2.2) := by
  refine EvP.fn (fun k => spec_l1Gram_eq k _ _) (EvP.bind (pick_ev (m := m + 29) hr (by omega) (by omega)) fun a ha => EvP.dec (fun _ => ?_) (fun _ => ?_))
  · refine EvP.bind (num_ev (m := m + 28) ha.2.2 _ (by simp) (by simp)) fun c hc => EvP.bind (base_ev c.1) fun d hd => EvP.now ⟨hd, hc.2.less (by omega)⟩
  · refine EvP.bind (num_ev (m := m + 28) ha.2.2 _ (by simp) (by simp)) fun c hc => ?_
    have hcb : 0 ≤ c.1 ∧ c.1 ≤ 5 := by
      have := hc.1
      simp only [List.mem_cons, List.not_mem_nil, or_false] at this
      omega
    obtain ⟨N, hN⟩ := Int.eq_ofNat_of_zero_le hcb.1
    rw [hN]
    exact (gram_loop N m _ _ 0 ⟨by decide, by decide, by simp⟩ (by omega) (hc.2.less (by omega))).mono fun r hr => ⟨hr.1.more (by omega), hr.2⟩
theorem full_loop : ∀ (n m : Nat) {b : List Int} {p : Int} (x g : GramT) (q : Nat), Gr q g → 9 ≤ g.2.length + n → 9 ≤ q → Rd (m + 3 * n) b p →
    EvP (fun k => spec_l1Bent_L259582 k (b, p) x g) (fun r => Gr q r.1 ∧ Rd m r.2.1 r.2.2)
  | 0, m, b, p, x, g, q, hg, h, hq, hr => by
    refine EvP.fn (fun k => spec_l1Bent_L259582_eq k _ _ _) (EvP.decN (by omega) (EvP.now ⟨hg, hr⟩))
  | n + 1, m, b, p, x, g, q, hg, h, hq, hr => by
    refine EvP.fn (fun k => spec_l1Bent_L259582_eq k _ _ _) (EvP.dec (fun h8 => ?_) (fun _ => EvP.now ⟨hg, hr.less (by omega)⟩))
    refine EvP.bind (signed_ev (m := m + 3 * n) (n := 3) (by omega) (by omega) (by omega) (hr.less (by omega))) fun d hd => ?_
    refine EvP.yes (mG (by simp; omega)) ?_
    have hg8 : Gr 8 g := ⟨hg.1, by omega, hg.2.2⟩
    exact full_loop n m _ _ q ((hg8.add (_, d.1) ⟨by show 1 ≤ 5; decide, by show d.1.length ≤ 5; have := hd.1; omega⟩).more hq) (by simp; omega) hq hd.2
theorem lens {l : List (List UInt8)} {x : List UInt8} (h : x ∈ l) (hl : (l.all fun x => decide (x.length ≤ 5)) = true) : x.length ≤ 5 := of_decide_eq_true (List.all_eq_true.1 hl x h)
theorem bentG_ev {m : Nat} {b : List Int} {p : Int} (hr : Rd (m + 40) b p) (n : Nat) (hn : n ≤ 100) (h8 : 8 ≤ n) (g : GramT) (hg : Gr n g) : EvP (fun k => spec_l1Bent k b p g.1 g.2) (fun r => Gr (n + 1) r.1 ∧ Rd m r.2.1 r.2.2) := by
  have hg2 := hg.2.1
  refine EvP.fn (fun k => spec_l1Bent_eq k _ _ _ _) (EvP.yes (mG (by omega)) (EvP.bind (pick_ev (m := m + 39) hr (by omega) (by omega)) fun a ha => ?_))
  refine EvP.decF (fun _ => EvP.dec (fun _ => EvP.now ⟨hg.more (by omega), ha.2.2.less (by omega)⟩) (fun h0 => ?_)) (fun _ => EvP.now ⟨hg.more (by omega), ha.2.2.less (by omega)⟩)
  refine EvP.bind (pick_ev (m := m + 38) ha.2.2 (by omega) (by omega)) fun c hc => EvP.bind (pick_ev (m := m + 37) hc.2.2 (by omega) (by omega)) fun d hd => ?_
  have hat := hg.at c.1.toNat (by omega)
  refine EvP.dec (fun _ => ?_) (fun _ => EvP.dec (fun _ => ?_) (fun _ => EvP.dec (fun _ => ?_) (fun _ => EvP.dec (fun _ => ?_) (fun _ => ?_))))
  · exact EvP.bind (of_ev (m := m + 36) hd.2.2 _ (by simp) (by simp)) fun e he => EvP.now ⟨⟨lens he.1 (by decide), by show g.2.length ≤ n + 1; omega, hg.2.2⟩, he.2.less (by omega)⟩
  · refine EvP.bind (of_ev (m := m + 36) hd.2.2 _ (by simp) (by simp)) fun e he => ?_
    have hl := lens he.1 (by decide)
    exact EvP.yes hc.1 (EvP.yes hc.2.1 (EvP.now ⟨(hg.set _ (e.1, _) ⟨hl, hat.2⟩).more (by omega), he.2.less (by omega)⟩))
  · refine EvP.bind (of_ev (m := m + 36) hd.2.2 _ (by simp) (by simp)) fun e he => ?_
    have hl := lens he.1 (by decide)
    exact EvP.yes hc.1 (EvP.yes hc.2.1 (EvP.now ⟨(hg.set _ (_, e.1) ⟨hat.1, hl⟩).more (by omega), he.2.less (by omega)⟩))
  · exact EvP.yes hc.1 (EvP.yes hc.2.1 (EvP.yes (mG (by simp; omega)) (EvP.now ⟨hg.add _ hat, hd.2.2.less (by omega)⟩)))
  · exact (full_loop 9 m _ g (n + 1) (hg.more (by omega)) (by omega) (by omega) (hd.2.2.less (by omega)))
def signSmall (s : List UInt8) : Bool := match s with | [c] => small c | _ => false
theorem signSmall_ev (s : List UInt8) : EvP (fun k => spec_SignSmall k s) (fun r => r = signSmall s) := by
  refine EvP.fn (fun k => spec_SignSmall_eq k s) (EvP.dec (fun h => EvP.yes (by omega) (EvP.yes (by omega) (EvP.bind (l1Small_ev _) fun b hb => EvP.now ?_))) (fun h => EvP.now ?_))
  · match s, h with
    | [c], _ => exact hb
  · match s, h with
    | [], _ => rfl
    | [c], h => exact absurd rfl h
    | _ :: _ :: _, _ => rfl
theorem for_loop (s : List UInt8) (g : GramT) (hg : g.2.length ≤ 1000) : ∀ (n i : Nat) (l : List Int), i + n = g.2.length → l.length ≤ i → (∀ j ∈ l, 0 ≤ j ∧ j < g.2.length) →
    EvP (fun k => spec_l1For_L58 k s g l (i : Int)) (fun r => r.length ≤ g.2.length ∧ ∀ j ∈ r, 0 ≤ j ∧ j < g.2.length)
  | 0, i, l, h, hl, hj => by
    refine EvP.fn (fun k => spec_l1For_L58_eq k _ _ _ _) (EvP.decN (by omega) (EvP.now ⟨by omega, hj⟩))
  | n + 1, i, l, h, hl, hj => by
    refine EvP.fn (fun k => spec_l1For_L58_eq k _ _ _ _) (EvP.decY (by omega) (EvP.yes (by omega) (EvP.yes (by omega) ?_)))
    rw [w64 (by omega) (by omega)]
    refine EvP.dec (fun _ => EvP.yes (mG (by simp; omega)) ?_) (fun _ => ?_)
    · refine for_loop s _ hg n (i + 1) _ (by show i + 1 + n = g.2.length; omega) (by simp; omega) fun j hj' => ?_
      rcases List.mem_append.1 hj' with h' | h'
      · exact hj j h'
      · rw [List.mem_singleton.1 h']; constructor
        · omega
        · show (i : Int) < (g.2.length : Int); omega
    · exact for_loop s _ hg n (i + 1) _ (by show i + 1 + n = g.2.length; omega) (by omega) hj
theorem for_ev (g : GramT) (hg : g.2.length ≤ 1000) (s : List UInt8) : EvP (fun k => spec_l1For k g.1 g.2 s) (fun r => r.length ≤ g.2.length ∧ ∀ j ∈ r, 0 ≤ j ∧ j < g.2.length) :=
  EvP.fn (fun k => spec_l1For_eq k _ _ _) (for_loop s g hg g.2.length 0 [] (by omega) (by simp) (fun j h => absurd h List.not_mem_nil))
/-! trees drawn -/
/-- No deeper than n, few kids, short signs. -/
def Slim (w : Nat) : Nat → Tr → Prop
  | 0, _ => False
  | n + 1, t => t.s.length ≤ 5 ∧ -2 ≤ t.r ∧ t.r ≤ 1000 ∧ t.k.length ≤ w ∧ ∀ u ∈ t.k, Slim w n u
theorem Slim.more {w w' : Nat} (hw : w ≤ w') : ∀ {n n' : Nat} {t : Tr}, Slim w n t → n ≤ n' → Slim w' n' t
  | n + 1, n' + 1, t, h, hn => ⟨h.1, h.2.1, h.2.2.1, by have := h.2.2.2.1; omega, fun u hu => (h.2.2.2.2 u hu).more hw (by omega)⟩
theorem Slim.leaf {w n : Nat} {s : List UInt8} (hs : s.length ≤ 5) : Slim w (n + 1) (Tr.mk s (-1) []) :=
  ⟨hs, by show (-2 : Int) ≤ -1; decide, by show (-1 : Int) ≤ 1000; decide, Nat.zero_le _, fun u hu => absurd hu List.not_mem_nil⟩
def Rn : Nat → Nat | 0 => 0 | n + 1 => 1 + 5 * Rn n
theorem anyAt_loop (d : Nat) (hd : d ≤ 1000) (g : GramT) (hg : Gr 100 g)
    (ih : ∀ {m : Nat} {b : List Int} {p : Int}, Rd (m + Rn d) b p → ∀ (s : List UInt8), s.length ≤ 5 → ∀ deep : Int, deep ≤ d → EvP (fun k => spec_l3Any k b p g.1 g.2 s deep) (fun r => Slim 5 (d + 1) (Tr.mk r.1.1 r.1.2.1 r.1.2.2) ∧ Rd m r.2.1 r.2.2))
    (j : Int) (h0 : 0 ≤ j) (hj : j < g.2.length) (deep : Int) (h1 : 1 ≤ deep) (hdeep : deep ≤ d + 1) :
    ∀ (n i m : Nat) {b : List Int} {p : Int} (z t : List UInt8 × Int × List Tr), i + n = (g.2.getD j.toNat ([], [])).2.length → t.2.2.length = i → t.1.length ≤ 5 → -2 ≤ t.2.1 → t.2.1 ≤ 1000 → (∀ u ∈ t.2.2, Slim 5 (d + 1) u) → Rd (m + n * Rn d) b p →
    EvP (fun k => spec_l3Any_L2042 k (b, p) deep g z j t (i : Int)) (fun r => Slim 5 (d + 2) (Tr.mk r.1.1 r.1.2.1 r.1.2.2) ∧ Rd m r.2.1 r.2.2)
  | 0, i, m, b, p, z, t, h, ht, hs, hr1, hr2, hk, hr => by
    have hat := (hg.at j.toNat (by omega)).2
    refine EvP.fn (fun k => spec_l3Any_L2042_eq k _ _ _ _ _ _ _) (EvP.yes h0 (EvP.yes hj (EvP.decN (by omega) (EvP.now ⟨⟨hs, hr1, hr2, ?_, hk⟩, hr.less (by omega)⟩))))
    show t.2.2.length ≤ 5; omega
  | n + 1, i, m, b, p, z, t, h, ht, hs, hr1, hr2, hk, hr => by
    have hat := (hg.at j.toNat (by omega)).2
    have e1 : IntKind.i64.wrap ((i : Int) + 1) = ((i + 1 : Nat) : Int) := w64 (by omega) (by omega)
    have e2 : IntKind.i64.wrap (deep - 1) = deep - 1 := w64 (by omega) (by omega)
    refine EvP.fn (fun k => spec_l3Any_L2042_eq k _ _ _ _ _ _ _) (EvP.yes h0 (EvP.yes hj (EvP.decY (by omega) (EvP.yes h0 (EvP.yes hj ?_)))))
    rw [e1, e2]
    refine EvP.yes (by omega) (EvP.yes (by omega) (EvP.yes (by omega) ?_))
    have hm : m + (n + 1) * Rn d = m + n * Rn d + Rn d := by rw [Nat.succ_mul]; omega
    refine EvP.bind (ih (m := m + n * Rn d) (hm ▸ hr) _ (by rw [List.length_drop, List.length_take]; omega) (deep - 1) (by omega)) fun a ha => EvP.yes (mG (by simp; omega)) ?_
    refine anyAt_loop d hd g hg ih j h0 hj deep h1 hdeep n (i + 1) m _ _ (by omega) (by simp; omega) hs hr1 hr2 (fun u hu => ?_) ha.2
    rcases List.mem_append.1 hu with hu | hu
    · exact hk u hu
    · rw [List.mem_singleton.1 hu]; exact ha.1
theorem least_loop (d : Nat) (g : GramT) (hg : Gr 100 g) (l : List Int) (hl : ∀ j ∈ l, 0 ≤ j ∧ j < g.2.length) (hl2 : l.length ≤ 1000) (Q : ((List UInt8 × Int × List Tr) × List Int × Int) → Prop) (s : List UInt8) (deep : Int) (z : List UInt8 × Int × List Tr) (b : List Int) (p : Int)
    (nx : ∀ j : Int, 0 ≤ j → j < g.2.length → EvP (fun k => spec_l3Any_L127 k (b, p) s deep g z j) Q) : ∀ (n i : Nat) (j : Int), i + n = l.length → 0 ≤ j → j < g.2.length →
    EvP (fun k => spec_l3Any_L2026 k (b, p) s deep g z l j (i : Int)) Q
  | 0, i, j, h, h0, hj => EvP.fn (fun k => spec_l3Any_L2026_eq k _ _ _ _ _ _ _ _) (EvP.decN (by omega) (nx j h0 hj))
  | n + 1, i, j, h, h0, hj => by
    have hi := hl _ (getD_mem l i 0 (by omega))
    refine EvP.fn (fun k => spec_l3Any_L2026_eq k _ _ _ _ _ _ _ _) (EvP.decY (by omega) (EvP.yes (by omega) (EvP.yes (by omega) ?_)))
    rw [Int.toNat_natCast, w64 (by omega) (by omega)]
    refine EvP.yes hi.1 (EvP.yes hi.2 (EvP.yes h0 (EvP.yes hj (EvP.dec (fun _ => EvP.yes (by omega) (EvP.yes (by omega) ?_)) (fun _ => ?_)))))
    · exact least_loop d g hg l hl hl2 Q s deep z b p nx n (i + 1) _ (by omega) hi.1 hi.2
    · exact least_loop d g hg l hl hl2 Q s deep z b p nx n (i + 1) _ (by omega) h0 hj
theorem any_ev (g : GramT) (hg : Gr 100 g) : ∀ (d : Nat), d ≤ 1000 → ∀ {m : Nat} {b : List Int} {p : Int}, Rd (m + Rn d) b p → ∀ (s : List UInt8), s.length ≤ 5 → ∀ deep : Int, deep ≤ d →
    EvP (fun k => spec_l3Any k b p g.1 g.2 s deep) (fun r => Slim 5 (d + 1) (Tr.mk r.1.1 r.1.2.1 r.1.2.2) ∧ Rd m r.2.1 r.2.2) := by
  have hg2 := hg.2.1
  intro d
  induction d with
  | zero =>
    intro _ m b p hr s hs deep hd
    have z : Slim 5 1 (Tr.mk s (-1) []) := Slim.leaf hs
    refine EvP.fn (fun k => spec_l3Any_eq k _ _ _ _ _ _) (EvP.bind (signSmall_ev s) fun x hx => EvP.ite (fun _ => EvP.now ⟨z, hr.less (by omega)⟩) (fun _ => EvP.bind (for_ev g (by omega) s) fun l hl => ?_))
    exact EvP.decF (fun _ => EvP.decY (by omega) (EvP.now ⟨z, hr.less (by omega)⟩)) (fun _ => EvP.now ⟨z, hr.less (by omega)⟩)
  | succ d ih =>
    intro hd m b p hr s hs deep hdeep
    have z : Slim 5 (d + 2) (Tr.mk s (-1) []) := Slim.leaf hs
    refine EvP.fn (fun k => spec_l3Any_eq k _ _ _ _ _ _) (EvP.bind (signSmall_ev s) fun x hx => EvP.ite (fun _ => EvP.now ⟨z, hr.less (by omega)⟩) (fun _ => EvP.bind (for_ev g (by omega) s) fun l hl => ?_))
    refine EvP.decF (fun hl0 => EvP.dec (fun _ => EvP.now ⟨z, hr.less (by omega)⟩) (fun hdp => ?_)) (fun _ => EvP.now ⟨z, hr.less (by omega)⟩)
    have hR : Rn (d + 1) = 1 + 5 * Rn d := rfl
    refine EvP.bind (pick_ev (m := m + 5 * Rn d) (hr.less (by omega)) (by omega) (by omega)) fun c hc => EvP.yes hc.1 (EvP.yes hc.2.1 ?_)
    have hj := hl.2 _ (getD_mem l c.1.toNat 0 (by omega))
    have nx : ∀ j : Int, 0 ≤ j → j < g.2.length → EvP (fun k => spec_l3Any_L127 k (c.2.1, c.2.2) s deep g ([], 0, []) j) (fun r => Slim 5 (d + 2) (Tr.mk r.1.1 r.1.2.1 r.1.2.2) ∧ Rd m r.2.1 r.2.2) := fun j h0 hj => by
      have hat := (hg.at j.toNat (by omega)).2
      have hm : (g.2.getD j.toNat ([], [])).2.length * Rn d ≤ 5 * Rn d := Nat.mul_le_mul_right _ hat
      refine EvP.fn (fun k => spec_l3Any_L127_eq k _ _ _ _ _ _) ?_
      exact anyAt_loop d (by omega) g hg (fun hr => ih (by omega) hr) j h0 hj deep (by omega) (by omega) (g.2.getD j.toNat ([], [])).2.length 0 m _ (s, j, []) (by omega) rfl hs (by show -2 ≤ j; omega) (by show j ≤ 1000; omega) (fun u hu => absurd hu List.not_mem_nil) (hc.2.2.less (by omega))
    exact EvP.dec (fun _ => least_loop d g hg l hl.2 (by omega) _ s deep _ _ _ nx l.length 0 _ (by omega) hj.1 hj.2) (fun _ => nx _ hj.1 hj.2)
theorem some3_ev {m : Nat} {b : List Int} {p : Int} (hr : Rd (m + 1000000) b p) : EvP (fun k => spec_l3Some k b p) (fun r => Gr 10 r.1 ∧ Slim 6 10 r.2.1 ∧ Rd m r.2.2.1 r.2.2.2) := by
  have hR : Rn 8 = 97656 := by decide
  refine EvP.fn (fun k => spec_l3Some_eq k _ _) (EvP.bind (gram_ev (m := m + 900000) (hr.less (by omega))) fun g hg => EvP.bind (num_ev (m := m + 800000) (hg.2.less (by omega)) _ (by simp) (by simp)) fun a ha => ?_)
  have had : a.1 ≤ 8 := by
    have := ha.1
    simp only [List.mem_cons, List.not_mem_nil, or_false] at this
    omega
  refine EvP.bind (any_ev g.1 (hg.1.more (by omega)) 8 (by omega) (m := m + 600000) (ha.2.less (by omega)) g.1.1 hg.1.1 a.1 had) fun t ht => ?_
  refine EvP.bind (pick_ev (m := m + 500000) (ht.2.less (by omega)) (by omega) (by omega)) fun c hc => ?_
  obtain ⟨t1, t2, t3, t4', t5'⟩ := ht.1
  have t4' : t.1.2.2.length ≤ 5 := t4'
  have t4 := Nat.le_succ_of_le t4'
  have t5 : ∀ u ∈ t.1.2.2, Slim 6 9 u := fun u hu => (t5' u hu).more (by decide) (by decide)
  have hg10 := hg.1.more (show 6 ≤ 10 by omega)
  refine EvP.dec (fun _ => ?_) (fun _ => EvP.dec (fun _ => ?_) (fun _ => EvP.dec (fun _ => ?_) (fun _ => EvP.dec (fun _ => ?_) (fun _ => ?_))))
  · refine EvP.bind (num_ev (m := m + 400000) (hc.2.2.less (by omega)) _ (by simp) (by simp)) fun e he => EvP.now ⟨hg10, ⟨t1, ?_, ?_, t4, t5⟩, he.2.less (by omega)⟩
    all_goals
      have := he.1
      simp only [List.mem_cons, List.not_mem_nil, or_false] at this
      show _ ≤ _
      first | (show -2 ≤ e.1; omega) | (show e.1 ≤ 1000; omega)
  · refine EvP.bind (of_ev (m := m + 400000) (hc.2.2.less (by omega)) _ (by simp) (by simp)) fun e he => ?_
    have hl := lens he.1 (by decide)
    exact EvP.now ⟨hg10, ⟨hl, t2, t3, t4, t5⟩, he.2.less (by omega)⟩
  · refine EvP.yes (mG (by simp; omega)) (EvP.now ⟨hg10, ⟨t1, t2, t3, ?_, fun u hu => ?_⟩, hc.2.2.less (by omega)⟩)
    · show (t.1.2.2 ++ _).length ≤ 6
      simp; omega
    · rcases List.mem_append.1 hu with hu | hu
      · exact t5 u hu
      · rw [List.mem_singleton.1 hu]; exact Slim.leaf (by decide)
  · refine EvP.bind (bentG_ev (m := m + 400000) (hc.2.2.less (by omega)) 8 (by omega) (by omega) g.1 (hg.1.more (by omega))) fun e he => EvP.bind (bentG_ev (m := m + 300000) (he.2.less (by omega)) 9 (by omega) (by omega) e.1 he.1) fun f hf => ?_
    exact EvP.now ⟨hf.1, ⟨t1, t2, t3, t4, t5⟩, hf.2.less (by omega)⟩
  · exact EvP.now ⟨hg10, ⟨t1, t2, t3, t4, t5⟩, hc.2.2.less (by omega)⟩
/-! big and small signs -/
def big (c : UInt8) : Bool := decide (65 ≤ c.toNat) && decide (c.toNat ≤ 69)
def signBig (s : List UInt8) : Bool := match s with | [c] => big c | _ => false
theorem isIn_ev (s : List UInt8) (lo hi : Nat) : EvP (fun k => impl_isIn k s lo hi) (fun r => r = (match s with | [c] => decide (lo ≤ c.toNat) && decide (c.toNat ≤ hi) | _ => false)) := by
  refine EvP.fn (fun k => impl_isIn_eq k s _ _) (EvP.dec (fun h => EvP.yes (by omega) (EvP.yes (by omega) (EvP.dec (fun h1 => EvP.yes (by omega) (EvP.yes (by omega) (EvP.now ?_))) (fun h1 => EvP.now ?_)))) (fun h => EvP.now ?_))
  · match s, h with
    | [c], _ =>
      have h1 : lo ≤ c.toNat := by have : (lo : Int) ≤ (c.toNat : Int) := h1; omega
      show decide ((c.toNat : Int) ≤ (hi : Int)) = _
      have e : decide ((c.toNat : Int) ≤ (hi : Int)) = decide (c.toNat ≤ hi) := by congr 1; exact propext ⟨fun h => by omega, fun h => by omega⟩
      rw [e]; simp [h1]
  · match s, h with
    | [c], _ =>
      have h1 : ¬ lo ≤ c.toNat := by have : ¬ (lo : Int) ≤ (c.toNat : Int) := h1; omega
      simp [h1]
  · match s, h with
    | [], _ => rfl
    | [c], h => exact absurd rfl h
    | _ :: _ :: _, _ => rfl
/-! big signs -/
theorem l1Big_ev (c : UInt8) : EvP (fun k => spec_l1Big k ((c.toNat : Nat) : Int)) (fun r => r = big c) := by
  refine EvP.fn (fun k => spec_l1Big_eq k _) (EvP.dec (fun h => EvP.now ?_) (fun h => EvP.now ?_))
  · have h1 : 65 ≤ c.toNat := by omega
    have e : decide ((c.toNat : Int) ≤ 69) = decide (c.toNat ≤ 69) := by congr 1; exact propext ⟨fun h => by omega, fun h => by omega⟩
    rw [e]; simp [big, h1]
  · have h1 : ¬ 65 ≤ c.toNat := by omega
    simp [big, h1]
theorem specSignBig_ev (s : List UInt8) : EvP (fun k => spec_SignBig k s) (fun r => r = signBig s) := by
  refine EvP.fn (fun k => spec_SignBig_eq k s) (EvP.dec (fun h => EvP.yes (by omega) (EvP.yes (by omega) (EvP.bind (l1Big_ev _) fun b hb => EvP.now ?_))) (fun h => EvP.now ?_))
  · match s, h with
    | [c], _ => exact hb
  · match s, h with
    | [], _ => rfl
    | [c], h => exact absurd rfl h
    | _ :: _ :: _, _ => rfl
theorem implSignBig_ev (s : List UInt8) : EvP (fun k => impl_SignBig k s) (fun r => r = signBig s) :=
  EvP.fn (fun k => impl_SignBig_eq k s) (EvP.bind (isIn_ev s 65 69) fun r hr => EvP.now (by rw [hr]; rfl))
/-! how many signs a tree has -/
abbrev t0 : Tr := Tr.mk [] 0 []
/-- How many signs, so deep. -/
def sz : Nat → Tr → Nat
  | 0, _ => 1
  | d + 1, t => 1 + (t.k.map (sz d)).sum
theorem sz_pos : ∀ (d : Nat) (t : Tr), 1 ≤ sz d t
  | 0, _ => Nat.le_refl _
  | d + 1, t => by unfold sz; omega
theorem sum_le (l : List Tr) (f : Tr → Nat) (c : Nat) (h : ∀ u ∈ l, f u ≤ c) : (l.map f).sum ≤ l.length * c := by
  induction l with
  | nil => simp
  | cons a l ih =>
    have h1 := h a List.mem_cons_self
    have h2 := ih fun u hu => h u (List.mem_cons_of_mem _ hu)
    simp only [List.map_cons, List.sum_cons, List.length_cons, Nat.succ_mul]
    omega
theorem mem_sum (l : List Tr) (f : Tr → Nat) (u : Tr) (h : u ∈ l) : f u ≤ (l.map f).sum := by
  induction l with
  | nil => cases h
  | cons a l ih =>
    simp only [List.map_cons, List.sum_cons]
    rcases List.mem_cons.1 h with rfl | h
    · omega
    · have := ih h; omega
theorem sz_le : ∀ (n : Nat) (t : Tr), Slim 6 n t → ∀ d, sz d t ≤ 7 ^ n
  | n + 1, t, h, 0 => Nat.one_le_pow _ _ (by omega)
  | n + 1, t, h, d + 1 => by
    obtain ⟨_, _, _, h4, h5⟩ := h
    have h6 := sum_le t.k (sz d) (7 ^ n) (fun u hu => sz_le n u (h5 u hu) d)
    have h7 : 1 ≤ 7 ^ n := Nat.one_le_pow _ _ (by omega)
    have h8 : t.k.length * 7 ^ n ≤ 6 * 7 ^ n := Nat.mul_le_mul_right _ h4
    unfold sz
    rw [Nat.pow_succ]; omega
theorem sz_more {w : Nat} : ∀ (n : Nat) (t : Tr), Slim w n t → ∀ d, n ≤ d → sz d t = sz n t
  | n + 1, t, h, d + 1, hd => by
    unfold sz
    congr 2
    exact List.map_congr_left fun u hu => sz_more n u (h.2.2.2.2 u hu) d (by omega)
theorem drop_sum (l : List Tr) (f : Tr → Nat) (i : Nat) (hi : i < l.length) : ((l.drop i).map f).sum = f (l.getD i t0) + ((l.drop (i + 1)).map f).sum := by
  rw [drop_cons l i t0 hi, List.map_cons, List.sum_cons]
theorem drop_sum_le (l : List Tr) (f : Tr → Nat) : ∀ (n i : Nat), i + n = l.length → ((l.drop i).map f).sum ≤ (l.map f).sum
  | n, 0, _ => by rw [List.drop_zero]; exact Nat.le_refl _
  | n, i + 1, h => by
    have := drop_sum_le l f (n + 1) i (by omega)
    rw [drop_sum l f i (by omega)] at this
    omega
/-! the small signs of a tree -/
theorem smallE_eq (s : List UInt8) : smallE s = signSmall s := by
  match s with
  | [] => rfl
  | [c] => rfl
  | _ :: _ :: _ => rfl
theorem sanes_of (n : Nat) (ih : ∀ t : Tr, Slim 6 n t → saneE t = true) : ∀ l : List Tr, (∀ u ∈ l, Slim 6 n u) → saneEs l = true
  | [], _ => rfl
  | t :: l, h => by
    unfold saneEs
    rw [ih t (h t List.mem_cons_self), sanes_of n ih l fun u hu => h u (List.mem_cons_of_mem _ hu)]; rfl
theorem sane_of : ∀ (n : Nat) (t : Tr), Slim 6 n t → saneE t = true
  | n + 1, t, h => by
    obtain ⟨s, r, k⟩ := t
    obtain ⟨_, _, _, h4, h5⟩ := h
    have h4 : k.length ≤ 6 := h4
    unfold saneE
    rw [sanes_of n (sane_of n) k h5, decide_eq_true (by omega)]; rfl
theorem signSmall_len {s : List UInt8} (h : signSmall s = true) : s.length = 1 := by
  match s, h with
  | [c], _ => rfl
theorem yields_le (n : Nat) (ih : ∀ t : Tr, Slim 6 n t → (yieldE t).length ≤ sz n t) : ∀ l : List Tr, (∀ u ∈ l, Slim 6 n u) → (yieldEs l).length ≤ (l.map (sz n)).sum
  | [], _ => Nat.le_refl _
  | t :: l, h => by
    have h1 := ih t (h t List.mem_cons_self)
    have h2 := yields_le n ih l fun u hu => h u (List.mem_cons_of_mem _ hu)
    unfold yieldEs
    rw [List.length_append, List.map_cons, List.sum_cons]; omega
theorem yield_le : ∀ (n : Nat) (t : Tr), Slim 6 n t → (yieldE t).length ≤ sz n t
  | n + 1, t, h => by
    obtain ⟨s, r, k⟩ := t
    have h2 := yields_le n (yield_le n) k h.2.2.2.2
    unfold yieldE
    cases hs : smallE s with
    | true =>
      have := signSmall_len ((smallE_eq s) ▸ hs)
      show s.length ≤ 1 + _
      omega
    | false => show (yieldEs k).length ≤ 1 + (k.map (sz n)).sum; omega
theorem yield_ev (n : Nat) (hn : n ≤ 10) (t : Tr) (ht : Slim 6 n t) : EvP (fun k => impl_TreeYield k t.s t.r t.k) (fun r => r = yieldE t) := by
  have h1 := yield_le n t ht
  have h2 := sz_le n t ht n
  have h3 : 7 ^ n ≤ 7 ^ 10 := Nat.pow_le_pow_right (by omega) hn
  obtain ⟨s, r, k⟩ := t
  exact EvP.fn (fun k => impl_TreeYield_eq k _ _ _) (EvP.yes ⟨sane_of n _ ht, Nat.le_trans h1 (by omega)⟩ (EvP.now rfl))
/-! the parts of a tree -/
abbrev Spot := Tr × (List UInt8 × Int × Int)
def spKs (f : Tr → Int → List Spot) : List Tr → Int → List Spot
  | [], _ => []
  | u :: l, p => f u p ++ spKs f l (p + ((yieldE u).length : Nat))
def spF : Nat → Tr → Int → List Spot
  | 0, _, _ => []
  | n + 1, t, p => match signBig t.s with | false => [] | true => (t, t.s, p, p + ((yieldEs t.k).length : Nat)) :: spKs (spF n) t.k p
theorem yieldE_small {t : Tr} (h : signSmall t.s = true) : yieldE t = t.s := by
  obtain ⟨s, r, k⟩ := t
  have h : signSmall s = true := h
  unfold yieldE
  rw [smallE_eq, h]
theorem yieldE_kids {t : Tr} (h : signSmall t.s = false) : yieldE t = yieldEs t.k := by
  obtain ⟨s, r, k⟩ := t
  have h : signSmall s = false := h
  unfold yieldE
  rw [smallE_eq, h]
theorem big_not_small {s : List UInt8} (h : signBig s = true) : signSmall s = false := by
  match s, h with
  | [c], h =>
    have h : big c = true := h
    show small c = false
    unfold big at h
    unfold small
    simp only [Bool.and_eq_true, decide_eq_true_eq] at h
    simp only [Bool.and_eq_false_imp, decide_eq_true_eq, decide_eq_false_iff_not]
    omega
theorem yieldEs_append (a b : List Tr) : yieldEs (a ++ b) = yieldEs a ++ yieldEs b := by
  induction a with
  | nil => rfl
  | cons x a ih => show yieldE x ++ yieldEs (a ++ b) = yieldE x ++ yieldEs a ++ yieldEs b; rw [ih, List.append_assoc]
theorem yieldEs_take (k : List Tr) (i : Nat) (hi : i < k.length) : yieldEs (k.take (i + 1)) = yieldEs (k.take i) ++ yieldE (k.getD i t0) := by
  have e : k.take (i + 1) = k.take i ++ [k.getD i t0] := by
    rw [List.take_add_one, List.getD_eq_getElem?_getD, List.getElem?_eq_getElem hi]; rfl
  rw [e, yieldEs_append]
  show _ ++ (yieldE _ ++ []) = _
  rw [List.append_nil]
/-- Where a part stands. -/
def At (s : List UInt8) (p : Int) (x : Spot) : Prop := signBig x.1.s = true ∧ x.2.1 = x.1.s ∧ ∃ a b, s = a ++ yieldE x.1 ++ b ∧ x.2.2.1 = p + (a.length : Nat) ∧ x.2.2.2 = x.2.2.1 + ((yieldE x.1).length : Nat)
theorem At.wide {s : List UInt8} {p : Int} {x : Spot} (a b : List UInt8) (h : At s (p + (a.length : Nat)) x) : At (a ++ s ++ b) p x := by
  obtain ⟨h1, h2, c, d, h3, h4, h5⟩ := h
  refine ⟨h1, h2, a ++ c, d ++ b, ?_, ?_, h5⟩
  · rw [h3]; simp only [List.append_assoc]
  · rw [h4, List.length_append]; omega
theorem spKs_at (f : Tr → Int → List Spot) (hf : ∀ u p x, x ∈ f u p → At (yieldE u) p x) : ∀ (l : List Tr) (p : Int) (x : Spot), x ∈ spKs f l p → At (yieldEs l) p x
  | [], p, x, h => by cases h
  | u :: l, p, x, h => by
    rcases List.mem_append.1 h with h | h
    · have := (hf u p x h)
      have h2 : At (yieldE u) (p + (([] : List UInt8).length : Nat)) x := by simpa using this
      have := h2.wide [] (yieldEs l)
      exact this
    · have := (spKs_at f hf l _ x h).wide (yieldE u) []
      rw [List.append_nil] at this
      exact this
theorem spF_at : ∀ (n : Nat) (t : Tr) (p : Int) (x : Spot), x ∈ spF n t p → At (yieldE t) p x
  | n + 1, t, p, x, h => by
    unfold spF at h
    cases hb : signBig t.s with
    | false => rw [hb] at h; cases h
    | true =>
      rw [hb] at h
      have e := yieldE_kids (big_not_small hb)
      rcases List.mem_cons.1 h with rfl | h
      · exact ⟨hb, rfl, [], [], by simp, by simp, by rw [e]⟩
      · rw [e]; exact spKs_at _ (spF_at n) _ _ _ h
theorem At.cut {s : List UInt8} {x : Spot} (h : At s 0 x) : 0 ≤ x.2.2.1 ∧ x.2.2.1 ≤ x.2.2.2 ∧ x.2.2.2 ≤ (s.length : Nat) ∧ List.drop x.2.2.1.toNat (List.take x.2.2.2.toNat s) = yieldE x.1 := by
  obtain ⟨h1, h2, a, b, h3, h4, h5⟩ := h
  subst h3
  have e1 : x.2.2.1.toNat = a.length := by omega
  have e2 : x.2.2.2.toNat = (a ++ yieldE x.1).length := by rw [List.length_append]; omega
  refine ⟨by omega, by omega, ?_, ?_⟩
  · rw [List.length_append, List.length_append]; omega
  · rw [e1, e2, List.take_left, List.drop_left]
theorem At.same {s : List UInt8} {x y : Spot} (h : At s 0 x) (h' : At s 0 y) (e : x.2 = y.2) : yieldE x.1 = yieldE y.1 ∧ x.1.s = y.1.s := by
  have h1 := h.cut
  have h2 := h'.cut
  rw [e] at h1
  exact ⟨h1.2.2.2.symm.trans h2.2.2.2, by rw [← h.2.1, ← h'.2.1, e]⟩
theorem spKs_len (f : Tr → Int → List Spot) (h : Tr → Nat) : ∀ (l : List Tr) (p : Int), (∀ u ∈ l, ∀ p, (f u p).length ≤ h u) → (spKs f l p).length ≤ (l.map h).sum
  | [], p, _ => Nat.le_refl _
  | u :: l, p, hf => by
    have h1 := hf u List.mem_cons_self p
    have h2 := spKs_len f h l (p + ((yieldE u).length : Nat)) fun u hu => hf u (List.mem_cons_of_mem _ hu)
    unfold spKs
    rw [List.length_append, List.map_cons, List.sum_cons]; omega
theorem spF_len : ∀ (n : Nat) (t : Tr) (p : Int), (spF n t p).length ≤ sz n t
  | 0, _, _ => Nat.zero_le _
  | n + 1, t, p => by
    have := spKs_len (spF n) (sz n) t.k p fun u _ p => spF_len n u p
    have es : sz (n + 1) t = 1 + (t.k.map (sz n)).sum := rfl
    unfold spF
    split
    · exact Nat.zero_le _
    · rw [List.length_cons]; omega
theorem spF_slim : ∀ (n : Nat) (t : Tr) (p : Int), Slim 6 n t → ∀ x ∈ spF n t p, Slim 6 n x.1
  | n + 1, t, p, h, x, hx => by
    have ks : ∀ (l : List Tr) (p : Int), (∀ u ∈ l, Slim 6 n u) → x ∈ spKs (spF n) l p → Slim 6 n x.1 := by
      intro l
      induction l with
      | nil => intro p _ h; cases h
      | cons u l ih =>
        intro p hl hx
        rcases List.mem_append.1 hx with hx | hx
        · exact spF_slim n u p (hl u List.mem_cons_self) x hx
        · exact ih _ (fun u hu => hl u (List.mem_cons_of_mem _ hu)) hx
    unfold spF at hx
    split at hx
    · cases hx
    · rcases List.mem_cons.1 hx with rfl | hx
      · exact h
      · exact (ks t.k p h.2.2.2.2 hx).more (Nat.le_refl _) (by omega)
/-! the small signs of a tree: spec -/
theorem drop1 {α : Type} (l : List α) (i : Nat) (d : α) (h : i < l.length) : List.drop i (List.take (i + 1) l) = [l.getD i d] := by
  rw [List.drop_take, Nat.add_sub_cancel_left, drop_cons l i d h]; rfl
theorem l3Yield_ev : ∀ (n : Nat), n ≤ 10 → ∀ (t : Tr), Slim 6 n t → EvP (fun k => spec_l3Yield k t.s t.r t.k) (fun r => r = yieldE t)
  | n + 1, hn, t, h => by
    have hb := yields_le n (yield_le n) t.k h.2.2.2.2
    have hs := sz_le (n + 1) t h (n + 1)
    have es : sz (n + 1) t = 1 + (t.k.map (sz n)).sum := rfl
    have hb2 : 7 ^ (n + 1) ≤ 7 ^ 10 := Nat.pow_le_pow_right (by omega) hn
    have h5 := h.2.2.2.2
    have h4 := h.2.2.2.1
    have loop : ∀ (q i : Nat), i + q = t.k.length → EvP (fun k => spec_l3Yield_L122 k (t.s, t.r, t.k) (yieldEs (t.k.take i)) (i : Int)) (fun r => r = yieldEs t.k) := by
      intro q
      induction q with
      | zero =>
        intro i hi
        refine EvP.fn (fun k => spec_l3Yield_L122_eq k _ _ _) (EvP.decN (by show ¬ (i : Int) < (t.k.length : Int); omega) (EvP.now ?_))
        rw [List.take_of_length_le (by omega)]
      | succ q ih =>
        intro i hi
        have hi1 : (i : Int) < (t.k.length : Int) := by omega
        refine EvP.fn (fun k => spec_l3Yield_L122_eq k _ _ _) (EvP.decY hi1 (EvP.yes (by omega) (EvP.yes hi1 ?_)))
        rw [Int.toNat_natCast]
        refine EvP.bind (l3Yield_ev n (by omega) (t.k.getD i t0) (h5 _ (getD_mem _ _ _ (by omega)))) fun x hx => ?_
        subst hx
        have e := yieldEs_take t.k i (by omega)
        have hl : (yieldEs (t.k.take (i + 1))).length ≤ (yieldEs t.k).length := by
          have : yieldEs t.k = yieldEs (t.k.take (i + 1)) ++ yieldEs (t.k.drop (i + 1)) := by rw [← yieldEs_append, List.take_append_drop]
          rw [this, List.length_append]; omega
        rw [e, List.length_append] at hl
        refine EvP.yes (by omega) ?_
        rw [w64 (by omega) (by omega)]
        have := ih (i + 1) (by omega)
        rw [e] at this
        exact this
    refine EvP.fn (fun k => spec_l3Yield_eq k _ _ _) (EvP.bind (signSmall_ev _) fun b hb => ?_)
    subst hb
    cases hsm : signSmall t.s with
    | true => exact EvP.yes rfl (EvP.now (yieldE_small hsm).symm)
    | false => rw [yieldE_kids hsm]; exact EvP.no (by simp) (loop t.k.length 0 (by omega))
/-! the parts of a tree: impl -/
abbrev d0 : Spot := (Tr.mk [] 0 [], [], 0, 0)
theorem treta (t : Tr) : Tr.mk t.s t.r t.k = t := by cases t; rfl
theorem spKs_append (f : Tr → Int → List Spot) : ∀ (a b : List Tr) (p : Int), spKs f (a ++ b) p = spKs f a p ++ spKs f b (p + ((yieldEs a).length : Nat))
  | [], b, p => by show _ = [] ++ spKs f b (p + ((0 : Nat) : Int)); simp
  | u :: a, b, p => by
    show f u p ++ spKs f (a ++ b) _ = (f u p ++ spKs f a _) ++ spKs f b (p + (((yieldE u ++ yieldEs a).length : Nat) : Int))
    rw [spKs_append f a b, List.append_assoc, List.length_append]
    congr 3
    omega
theorem take_getD (k : List Tr) (i : Nat) (hi : i < k.length) : k.take (i + 1) = k.take i ++ [k.getD i t0] := by
  rw [List.take_add_one, List.getD_eq_getElem?_getD, List.getElem?_eq_getElem hi]; rfl
theorem spKs_take (f : Tr → Int → List Spot) (k : List Tr) (p : Int) (i : Nat) (hi : i < k.length) : spKs f (k.take (i + 1)) p = spKs f (k.take i) p ++ f (k.getD i t0) (p + ((yieldEs (k.take i)).length : Nat)) := by
  rw [take_getD k i hi, spKs_append]
  show _ ++ (_ ++ []) = _
  rw [List.append_nil]
theorem yields_take_le (k : List Tr) (i : Nat) : (yieldEs (k.take i)).length ≤ (yieldEs k).length := by
  have : yieldEs k = yieldEs (k.take i) ++ yieldEs (k.drop i) := by rw [← yieldEs_append, List.take_append_drop]
  rw [this, List.length_append]; omega
theorem spKs_take_le (f : Tr → Int → List Spot) (k : List Tr) (p : Int) (i : Nat) : (spKs f (k.take i) p).length ≤ (spKs f k p).length := by
  have : spKs f k p = spKs f (k.take i ++ k.drop i) p := by rw [List.take_append_drop]
  rw [this, spKs_append, List.length_append]; omega
theorem mX {n : Nat} (h : n ≤ 100000000000) : n < maxLenE := by unfold maxLenE; omega
theorem spots_loop (n : Nat) (hn : n + 1 ≤ 10) (t : Tr) (ht : Slim 6 (n + 1) t) (p : Int) (h0 : 0 ≤ p) (hp : p + ((yieldEs t.k).length : Nat) ≤ 1000000000) (l : List Spot) (hl : l.length ≤ (20 - (n + 1)) * 1000000000)
    (ih : ∀ (u : Tr) (q : Int) (l : List Spot), Slim 6 n u → 0 ≤ q → q + ((yieldE u).length : Nat) ≤ 1000000000 → l.length ≤ (20 - n) * 1000000000 → EvP (fun k => impl_spots' k u.s u.r u.k q l) (fun r => r = l ++ spF n u q)) :
    ∀ (q i : Nat), i + q = t.k.length → EvP (fun k => impl_spots_L506 k (l ++ (t, t.s, p, (0 : Int)) :: spKs (spF n) (t.k.take i) p) (l.length : Int) (p + ((yieldEs (t.k.take i)).length : Nat)) t.k (t.k.length : Int) (i : Int)) (fun r => r = l ++ (t, t.s, p, p + ((yieldEs t.k).length : Nat)) :: spKs (spF n) t.k p)
  | 0, i, h => by
    refine EvP.fn (fun k => impl_spots_L506_eq k _ _ _ _ _ _) (EvP.decN (by omega) (EvP.yes (by omega) (EvP.yes ?_ (EvP.now ?_))))
    · rw [List.length_append, List.length_cons]; omega
    · rw [List.take_of_length_le (by omega), Int.toNat_natCast, List.set_append_right _ _ (Nat.le_refl _), Nat.sub_self]
      have e : ((l ++ (t, t.s, p, (0 : Int)) :: spKs (spF n) t.k p).getD l.length (Tr.mk [] 0 [], [], 0, 0)) = (t, t.s, p, (0 : Int)) := by
        rw [List.getD_eq_getElem?_getD, List.getElem?_append_right (Nat.le_refl _), Nat.sub_self]; rfl
      rw [e]; rfl
  | q + 1, i, h => by
    have hu := ht.2.2.2.2 _ (getD_mem t.k i t0 (by omega))
    have e1 := yieldEs_take t.k i (by omega)
    have e2 := yields_take_le t.k (i + 1)
    have e3 := spKs_take (spF n) t.k p i (by omega)
    have e4 := spKs_take_le (spF n) t.k p i
    have e5 := spKs_len (spF n) (sz n) t.k p fun u _ p => spF_len n u p
    have es : sz (n + 1) t = 1 + (t.k.map (sz n)).sum := rfl
    have hs := sz_le (n + 1) t ht (n + 1)
    have hb2 : 7 ^ (n + 1) ≤ 7 ^ 10 := Nat.pow_le_pow_right (by omega) hn
    have h4 := ht.2.2.2.1
    have e1l : (yieldEs (t.k.take (i + 1))).length = (yieldEs (t.k.take i)).length + (yieldE (t.k.getD i t0)).length := by rw [e1, List.length_append]
    refine EvP.fn (fun k => impl_spots_L506_eq k _ _ _ _ _ _) (EvP.decY (by omega) (EvP.yes (by omega) (EvP.yes (by omega) ?_)))
    rw [Int.toNat_natCast]
    refine EvP.bind (ih (t.k.getD i t0) (p + ((yieldEs (t.k.take i)).length : Nat)) _ hu (by omega) (by omega) (by rw [List.length_append, List.length_cons]; omega)) fun x hx => EvP.bind (yield_ev n (by omega) (t.k.getD i t0) hu) fun y hy => ?_
    subst hx hy
    have e6 : IntKind.i64.wrap (p + ((yieldEs (t.k.take i)).length : Nat) + ((yieldE (t.k.getD i t0)).length : Nat)) = p + ((yieldEs (t.k.take (i + 1))).length : Nat) := by
      rw [w64 (by omega) (by omega)]; omega
    rw [w64 (x := (i : Int) + 1) (by omega) (by omega), e6]
    have := spots_loop n hn t ht p h0 hp l hl ih q (i + 1) (by omega)
    rw [e3, ← List.cons_append, ← List.append_assoc] at this
    exact this
theorem spots'_ev : ∀ (n : Nat) (u : Tr) (q : Int) (l : List Spot), n ≤ 10 → Slim 6 n u → 0 ≤ q → q + ((yieldE u).length : Nat) ≤ 1000000000 → l.length ≤ (20 - n) * 1000000000 → EvP (fun k => impl_spots' k u.s u.r u.k q l) (fun r => r = l ++ spF n u q)
  | n + 1, u, q, l, hn, h, h0, hq, hl => by
    refine EvP.fn (fun k => impl_spots'_eq k _ _ _ _ _) (EvP.bind (implSignBig_ev _) fun b hb => ?_)
    subst hb
    unfold spF
    cases hs : signBig u.s with
    | false => exact EvP.yes rfl (EvP.now (by simp))
    | true =>
      rw [yieldE_kids (big_not_small hs)] at hq
      refine EvP.no (by simp) (EvP.yes (mX (by show l.length + 1 ≤ _; omega)) ?_)
      rw [treta]
      have := spots_loop n hn u h q h0 hq l hl (fun v q l hv h0 hq hl => spots'_ev n v q l (by omega) hv h0 hq hl) u.k.length 0 (by omega)
      simpa [yieldEs, spKs] using this
theorem spots_ev (n : Nat) (u : Tr) (hn : n ≤ 10) (h : Slim 6 n u) (hq : (yieldE u).length ≤ 1000000000) : EvP (fun k => impl_spots k u.s u.r u.k 0 []) (fun r => r = spF n u 0) := by
  match n, h with
  | n + 1, h =>
    refine EvP.fn (fun k => impl_spots_eq k _ _ _ _ _) (EvP.bind (implSignBig_ev _) fun b hb => ?_)
    subst hb
    unfold spF
    cases hs : signBig u.s with
    | false => exact EvP.yes rfl (EvP.now rfl)
    | true =>
      rw [yieldE_kids (big_not_small hs)] at hq
      refine EvP.no (by simp) (EvP.yes (mX (by show 0 + 1 ≤ _; omega)) ?_)
      rw [treta]
      have := spots_loop n hn u h 0 (by omega) (by omega) [] (by show 0 ≤ _; omega) (fun v q l hv h0 hq hl => spots'_ev n v q l (by omega) hv h0 hq hl) u.k.length 0 (by omega)
      simpa [yieldEs, spKs] using this
/-- What stands where a part stands. -/
theorem parts_loop (l : List Spot) (hl : l.length ≤ 10000000000) : ∀ (q i : Nat), i + q = l.length → EvP (fun k => impl_TreeParts_L58 k ((l.take i).map (·.2)) l (l.length : Int) (i : Int)) (fun r => r = l.map (·.2))
  | 0, i, h => by
    refine EvP.fn (fun k => impl_TreeParts_L58_eq k _ _ _ _) (EvP.decN (by omega) (EvP.now ?_))
    rw [List.take_of_length_le (by omega)]
  | q + 1, i, h => by
    refine EvP.fn (fun k => impl_TreeParts_L58_eq k _ _ _ _) (EvP.decY (by omega) (EvP.yes (by omega) (EvP.yes (by omega) (EvP.yes (mX ?_) ?_))))
    · rw [List.length_map, List.length_take]; show _ + 1 ≤ _; omega
    · rw [Int.toNat_natCast, w64 (by omega) (by omega)]
      have := parts_loop l hl q (i + 1) (by omega)
      have e : l.take (i + 1) = l.take i ++ [l.getD i (Tr.mk [] 0 [], [], 0, 0)] := by
        rw [List.take_add_one, List.getD_eq_getElem?_getD, List.getElem?_eq_getElem (show i < l.length by omega)]; rfl
      rw [e, List.map_append] at this
      exact this
theorem implParts_ev (t : Tr) (ht : Slim 6 10 t) : EvP (fun k => impl_TreeParts k t.s t.r t.k) (fun r => r = (spF 10 t 0).map (·.2)) := by
  have hb := sz_le 10 t ht 10
  have hb2 : 7 ^ 10 = 282475249 := by decide
  have hl := spF_len 10 t 0
  have hy := yield_le 10 t ht
  refine EvP.fn (fun k => impl_TreeParts_eq k _ _ _) (EvP.bind (spots_ev 10 t (by omega) ht (by omega)) fun x hx => ?_)
  subst hx
  exact parts_loop _ (by omega) _ 0 (Nat.zero_add _)
/-! the parts of a tree: spec -/
theorem l9Parts_ev : ∀ (n : Nat) (u : Tr) (p : Int), n ≤ 10 → Slim 6 n u → 0 ≤ p → p + ((yieldE u).length : Nat) ≤ 1000000000 → EvP (fun k => spec_l9Parts k u.s u.r u.k p) (fun r => r = (spF n u p).map (·.2))
  | n + 1, t, p, hn, ht, h0, hp => by
    have hs := sz_le (n + 1) t ht (n + 1)
    have hb2 : 7 ^ (n + 1) ≤ 7 ^ 10 := Nat.pow_le_pow_right (by omega) hn
    refine EvP.fn (fun k => spec_l9Parts_eq k _ _ _ _) (EvP.bind (specSignBig_ev _) fun b hb => ?_)
    subst hb
    have hlen := spF_len (n + 1) t p
    unfold spF at hlen ⊢
    cases hsb : signBig t.s with
    | false => exact EvP.yes rfl (EvP.now rfl)
    | true =>
      rw [hsb] at hlen
      have hlen : (spKs (spF n) t.k p).length + 1 ≤ sz (n + 1) t := hlen
      have ey := yieldE_kids (big_not_small hsb)
      rw [ey] at hp
      refine EvP.no (by simp) (EvP.bind (l3Yield_ev (n + 1) hn t ht) fun y hy => EvP.yes (mX (by show 0 + 1 ≤ _; omega)) ?_)
      subst hy
      rw [ey, w64 (by omega) (by omega)]
      have loop : ∀ (q i : Nat), i + q = t.k.length → EvP (fun k => spec_l9Parts_L250 k (p + ((yieldEs (t.k.take i)).length : Nat)) (t.s, t.r, t.k) ((t.s, p, p + ((yieldEs t.k).length : Nat)) :: (spKs (spF n) (t.k.take i) p).map (·.2)) (i : Int)) (fun r => r = (t.s, p, p + ((yieldEs t.k).length : Nat)) :: (spKs (spF n) t.k p).map (·.2)) := by
        intro q
        induction q with
        | zero =>
          intro i hi
          refine EvP.fn (fun k => spec_l9Parts_L250_eq k _ _ _ _) (EvP.decN (by show ¬ (i : Int) < (t.k.length : Int); omega) (EvP.now ?_))
          rw [List.take_of_length_le (by omega)]
        | succ q ih =>
          intro i hi
          have hi1 : (i : Int) < (t.k.length : Int) := by omega
          have hu := ht.2.2.2.2 _ (getD_mem t.k i t0 (by omega))
          have h4 := ht.2.2.2.1
          have e1 := yieldEs_take t.k i (by omega)
          have e2 := yields_take_le t.k (i + 1)
          have e3 := spKs_take (spF n) t.k p i (by omega)
          have e4 := spKs_take_le (spF n) t.k p i
          have e1l : (yieldEs (t.k.take (i + 1))).length = (yieldEs (t.k.take i)).length + (yieldE (t.k.getD i t0)).length := by rw [e1, List.length_append]
          have hsu := spF_len n (t.k.getD i t0) (p + ((yieldEs (t.k.take i)).length : Nat))
          have hsz := sz_le n _ hu n
          have hb3 : 7 ^ n ≤ 7 ^ 10 := Nat.pow_le_pow_right (by omega) (by omega)
          refine EvP.fn (fun k => spec_l9Parts_L250_eq k _ _ _ _) (EvP.decY hi1 (EvP.yes (by omega) (EvP.yes hi1 ?_)))
          rw [Int.toNat_natCast]
          refine EvP.bind (l9Parts_ev n (t.k.getD i t0) (p + ((yieldEs (t.k.take i)).length : Nat)) (by omega) hu (by omega) (by omega)) fun x hx => ?_
          subst hx
          refine EvP.yes (mX (by rw [List.length_cons, List.length_map, List.length_map]; omega)) (EvP.yes (by omega) (EvP.yes hi1 (EvP.bind (l3Yield_ev n (by omega) (t.k.getD i t0) hu) fun y hy => ?_)))
          subst hy
          have e6 : IntKind.i64.wrap (p + ((yieldEs (t.k.take i)).length : Nat) + ((yieldE (t.k.getD i t0)).length : Nat)) = p + ((yieldEs (t.k.take (i + 1))).length : Nat) := by
            rw [w64 (by omega) (by omega)]; omega
          rw [w64 (x := (i : Int) + 1) (by omega) (by omega), e6]
          have := ih (i + 1) (by omega)
          rw [e3, List.map_append] at this
          exact this
      have := loop t.k.length 0 (by omega)
      simpa [yieldEs, spKs] using this
theorem specParts_ev (t : Tr) (ht : Slim 6 10 t) : EvP (fun k => spec_TreeParts k t.s t.r t.k) (fun r => r = (spF 10 t 0).map (·.2)) := by
  have hb := sz_le 10 t ht 10
  have hb2 : 7 ^ 10 = 282475249 := by decide
  have hy := yield_le 10 t ht
  exact EvP.fn (fun k => spec_TreeParts_eq k _ _ _) (EvP.bind (l9Parts_ev 10 t 0 (by omega) ht (by omega) (by omega)) fun x hx => EvP.now hx)
/-! a part looked up: impl -/
theorem own_ev : ∀ (n : Nat) (t : Tr), Slim 6 n t → EvP (fun k => impl_ownTree k t.s t.r t.k) (fun r => r = t)
  | n + 1, t, h => by
    obtain ⟨_, _, _, h4, h5⟩ := h
    have loop : ∀ (q i : Nat), i + q = t.k.length → EvP (fun k => impl_ownTree_L58 k ([], (0 : Int), []) (t.s, t.r, t.k.take i) t.k (t.k.length : Int) (i : Int)) (fun r => r = t) := by
      intro q
      induction q with
      | zero =>
        intro i hi
        refine EvP.fn (fun k => impl_ownTree_L58_eq k _ _ _ _ _) (EvP.decN (by omega) (EvP.now ?_))
        rw [List.take_of_length_le (by omega)]; exact treta t
      | succ q ih =>
        intro i hi
        refine EvP.fn (fun k => impl_ownTree_L58_eq k _ _ _ _ _) (EvP.decY (by omega) (EvP.yes (by omega) (EvP.yes (by omega) ?_)))
        rw [Int.toNat_natCast]
        refine EvP.bind (own_ev n (t.k.getD i t0) (h5 _ (getD_mem _ _ _ (by omega)))) fun x hx => EvP.yes (mX (by rw [List.length_take]; show _ + 1 ≤ _; omega)) ?_
        subst hx
        rw [w64 (by omega) (by omega), treta]
        have := ih (i + 1) (by omega)
        rw [take_getD t.k i (by omega)] at this
        exact this
    exact EvP.fn (fun k => impl_ownTree_eq k _ _ _) (loop t.k.length 0 (by omega))
theorem eqP (a b : List UInt8 × Int × Int) : (match decide (a.1 = b.1) with | false => false | true => decide (a.2.1 = b.2.1) && decide (a.2.2 = b.2.2)) = decide (a = b) := by
  obtain ⟨a1, a2, a3⟩ := a
  obtain ⟨b1, b2, b3⟩ := b
  simp only [Prod.mk.injEq]
  by_cases h1 : a1 = b1 <;> by_cases h2 : a2 = b2 <;> by_cases h3 : a3 = b3 <;> simp [h1, h2, h3]
theorem index_loop (l : List Spot) (hl : l.length ≤ 10000000000) (p : List UInt8 × Int × Int) : ∀ (q i : Nat), i + q = l.length → EvP (fun k => slices_IndexFunc_Simpl_spot_impl_spot_L26 k l p.1 p.2.1 p.2.2 (l.length : Int) (i : Int)) (fun r => (r < 0 ∧ (l.drop i).find? (fun x => decide (x.2 = p)) = none) ∨ (0 ≤ r ∧ r < l.length ∧ (l.drop i).find? (fun x => decide (x.2 = p)) = some (l.getD r.toNat d0)))
  | 0, i, h => by
    refine EvP.fn (fun k => slices_IndexFunc_Simpl_spot_impl_spot_L26_eq k _ _ _ _ _ _) (EvP.decN (by omega) (EvP.now (.inl ⟨by decide, ?_⟩)))
    rw [List.drop_eq_nil_of_le (by omega)]; rfl
  | q + 1, i, h => by
    refine EvP.fn (fun k => slices_IndexFunc_Simpl_spot_impl_spot_L26_eq k _ _ _ _ _ _) (EvP.decY (by omega) (EvP.yes (by omega) (EvP.yes (by omega) ?_)))
    rw [Int.toNat_natCast, drop_cons l i d0 (by omega)]
    refine EvP.bind (P := fun r => r = decide ((l.getD i d0).2 = p)) (EvP.fn (fun k => impl_TreeFind_1_eq k _ _ _ _ _ _ _ _ _) (EvP.now (eqP (l.getD i d0).2 p))) fun b hb => ?_
    subst hb
    refine EvP.dec (fun he => EvP.now (.inr ⟨by omega, by omega, ?_⟩)) (fun he => ?_)
    · rw [List.find?_cons_of_pos (by simpa using he), Int.toNat_natCast]
    · rw [List.find?_cons_of_neg (by simpa using he), w64 (by omega) (by omega)]
      exact index_loop l hl p q (i + 1) (by omega)
def Found (t : Tr) (p : List UInt8 × Int × Int) (r : Tr × Bool) : Prop := r = match (spF 10 t 0).find? (fun x => decide (x.2 = p)) with | some x => (x.1, true) | none => (Tr.mk [] 0 [], false)
theorem implFind_ev (t : Tr) (ht : Slim 6 10 t) (p : List UInt8 × Int × Int) : EvP (fun k => impl_TreeFind k t.s t.r t.k p.1 p.2.1 p.2.2) (Found t p) := by
  have hb := sz_le 10 t ht 10
  have hb2 : 7 ^ 10 = 282475249 := by decide
  have hl := spF_len 10 t 0
  have hy := yield_le 10 t ht
  refine EvP.fn (fun k => impl_TreeFind_eq k _ _ _ _ _ _) (EvP.bind (spots_ev 10 t (by omega) ht (by omega)) fun x hx => ?_)
  subst hx
  refine EvP.bind (EvP.fn (fun k => slices_IndexFunc_Simpl_spot_impl_spot_eq k _ _ _ _) (index_loop _ (by omega) p _ 0 (Nat.zero_add _))) fun i hi => ?_
  rw [List.drop_zero] at hi
  rcases hi with ⟨h1, h2⟩ | ⟨h1, h2, h3⟩
  · exact EvP.decY h1 (EvP.now (by unfold Found; rw [h2]))
  · refine EvP.decN (by omega) (EvP.yes h1 (EvP.yes h2 (EvP.bind (own_ev 10 _ (spF_slim 10 t 0 ht _ (getD_mem (spF 10 t 0) i.toNat d0 (by omega)))) fun x hx => EvP.now ?_)))
    unfold Found
    rw [h3, hx, treta]
/-! trees compared: impl -/
theorem sameI_ev : ∀ (n : Nat) (a : Tr), Slim 6 n a → ∀ c : Tr, EvP (fun k => impl_TreeSame k a.s a.r a.k c.s c.r c.k) (fun r => r = true ↔ a = c)
  | n + 1, a, h, c => by
    obtain ⟨_, _, _, h4, h5⟩ := h
    have loop : ∀ (q i : Nat), i + q = a.k.length → a.k.length = c.k.length → EvP (fun k => slices_EqualFunc_Simpl_Tree_Simpl_Tree_impl_Tree_impl_Tree_L58 k c.k a.k (a.k.length : Int) (i : Int)) (fun r => r = true ↔ a.k.drop i = c.k.drop i) := by
      intro q
      induction q with
      | zero =>
        intro i hi hl
        refine EvP.fn (fun k => slices_EqualFunc_Simpl_Tree_Simpl_Tree_impl_Tree_impl_Tree_L58_eq k _ _ _ _) (EvP.decN (by omega) (EvP.now ?_))
        rw [List.drop_eq_nil_of_le (by omega), List.drop_eq_nil_of_le (by omega)]; simp
      | succ q ih =>
        intro i hi hl
        refine EvP.fn (fun k => slices_EqualFunc_Simpl_Tree_Simpl_Tree_impl_Tree_impl_Tree_L58_eq k _ _ _ _) (EvP.decY (by omega) (EvP.yes (by omega) (EvP.yes (by omega) (EvP.yes (by omega) (EvP.yes (by omega) ?_)))))
        rw [Int.toNat_natCast, drop_cons a.k i (Tr.mk [] 0 []) (by omega), drop_cons c.k i (Tr.mk [] 0 []) (by omega)]
        refine EvP.bind (sameI_ev n (a.k.getD i (Tr.mk [] 0 [])) (h5 _ (getD_mem _ _ _ (by omega))) (c.k.getD i (Tr.mk [] 0 []))) fun x hx => ?_
        refine EvP.ite (fun hf => EvP.now ?_) (fun ht => ?_)
        · have hf : x = false := by simpa using hf
          subst hf
          exact ⟨fun h => by simp at h, fun h => absurd (hx.2 (List.cons.inj h).1) (by simp)⟩
        · have ht : x = true := by simpa using ht
          rw [w64 (by omega) (by omega), hx.1 ht]
          refine (ih (i + 1) (by omega) hl).mono fun r hr => ?_
          rw [hr, List.cons.injEq]; simp
    refine EvP.fn (fun k => impl_TreeSame_eq k _ _ _ _ _ _) (EvP.dec (fun e1 => EvP.dec (fun e2 => ?_) (fun e2 => EvP.now ?_)) (fun e1 => EvP.now ?_))
    · refine EvP.bind (P := fun r => r = true ↔ a.k = c.k) (EvP.fn (fun k => slices_EqualFunc_Simpl_Tree_Simpl_Tree_impl_Tree_impl_Tree_eq k _ _) (EvP.notT (fun h => EvP.now ?_) (fun h => ?_))) fun x hx => EvP.now ?_
      · exact ⟨fun h => by simp at h, fun e => absurd (by rw [e]) h⟩
      · exact (loop a.k.length 0 (by omega) (by omega)).mono fun r hr => hr
      · rw [hx]
        exact ⟨fun h => match a, c, e1, e2, h with | Tr.mk _ _ _, Tr.mk _ _ _, rfl, rfl, rfl => rfl, fun h => by rw [h]⟩
    · exact ⟨fun h => by simp at h, fun h => absurd (by rw [h]) e2⟩
    · exact ⟨fun h => by simp at h, fun h => absurd (by rw [h]) e1⟩
/-! a part looked up: spec -/
def pick (q : List UInt8 × Int × Int) (l : List Spot) : List Tr := (l.filter fun x => decide (x.2 = q)).map (·.1)
theorem pick_append (q : List UInt8 × Int × Int) (a b : List Spot) : pick q (a ++ b) = pick q a ++ pick q b := by
  unfold pick; rw [List.filter_append, List.map_append]
theorem pick_len (q : List UInt8 × Int × Int) (a : List Spot) : (pick q a).length ≤ a.length := by
  unfold pick; rw [List.length_map]; exact List.length_filter_le _ _
theorem l9Find_ev (z : List UInt8 × Int × Int) : ∀ (n : Nat) (u : Tr) (p : Int), n ≤ 10 → Slim 6 n u → 0 ≤ p → p + ((yieldE u).length : Nat) ≤ 1000000000 → EvP (fun k => spec_l9Find k u.s u.r u.k p z.1 z.2.1 z.2.2) (fun r => r = pick z (spF n u p))
  | n + 1, t, p, hn, ht, h0, hp => by
    have hs := sz_le (n + 1) t ht (n + 1)
    have hb2 : 7 ^ (n + 1) ≤ 7 ^ 10 := Nat.pow_le_pow_right (by omega) hn
    refine EvP.fn (fun k => spec_l9Find_eq k _ _ _ _ _ _ _) (EvP.bind (specSignBig_ev _) fun b hb => ?_)
    subst hb
    have hlen := spF_len (n + 1) t p
    unfold spF at hlen ⊢
    cases hsb : signBig t.s with
    | false => exact EvP.yes rfl (EvP.now rfl)
    | true =>
      rw [hsb] at hlen
      have hlen : (spKs (spF n) t.k p).length + 1 ≤ sz (n + 1) t := hlen
      have ey := yieldE_kids (big_not_small hsb)
      rw [ey] at hp
      refine EvP.no (by simp) (EvP.bind (l3Yield_ev (n + 1) hn t ht) fun y hy => ?_)
      subst hy
      rw [ey, w64 (by omega) (by omega)]
      have loop : ∀ (a : List Tr), a.length ≤ 1 → ∀ (q i : Nat), i + q = t.k.length → EvP (fun k => spec_l9Find_L250 k (p + ((yieldEs (t.k.take i)).length : Nat)) (t.s, t.r, t.k) z (a ++ pick z (spKs (spF n) (t.k.take i) p)) (i : Int)) (fun r => r = a ++ pick z (spKs (spF n) t.k p)) := by
        intro a ha q
        induction q with
        | zero =>
          intro i hi
          refine EvP.fn (fun k => spec_l9Find_L250_eq k _ _ _ _ _) (EvP.decN (by show ¬ (i : Int) < (t.k.length : Int); omega) (EvP.now ?_))
          rw [List.take_of_length_le (by omega)]
        | succ q ih =>
          intro i hi
          have hi1 : (i : Int) < (t.k.length : Int) := by omega
          have hu := ht.2.2.2.2 _ (getD_mem t.k i t0 (by omega))
          have h4 := ht.2.2.2.1
          have e1 := yieldEs_take t.k i (by omega)
          have e2 := yields_take_le t.k (i + 1)
          have e3 := spKs_take (spF n) t.k p i (by omega)
          have e4 := spKs_take_le (spF n) t.k p i
          have e1l : (yieldEs (t.k.take (i + 1))).length = (yieldEs (t.k.take i)).length + (yieldE (t.k.getD i t0)).length := by rw [e1, List.length_append]
          have hsu := spF_len n (t.k.getD i t0) (p + ((yieldEs (t.k.take i)).length : Nat))
          have hsz := sz_le n _ hu n
          have hb3 : 7 ^ n ≤ 7 ^ 10 := Nat.pow_le_pow_right (by omega) (by omega)
          have p1 := pick_len z (spKs (spF n) (t.k.take i) p)
          have p2 := pick_len z (spF n (t.k.getD i t0) (p + ((yieldEs (t.k.take i)).length : Nat)))
          refine EvP.fn (fun k => spec_l9Find_L250_eq k _ _ _ _ _) (EvP.decY hi1 (EvP.yes (by omega) (EvP.yes hi1 ?_)))
          rw [Int.toNat_natCast]
          refine EvP.bind (l9Find_ev z n (t.k.getD i t0) (p + ((yieldEs (t.k.take i)).length : Nat)) (by omega) hu (by omega) (by omega)) fun x hx => ?_
          subst hx
          refine EvP.yes (mX (by rw [List.length_append]; omega)) (EvP.yes (by omega) (EvP.yes hi1 (EvP.bind (l3Yield_ev n (by omega) (t.k.getD i t0) hu) fun y hy => ?_)))
          subst hy
          have e6 : IntKind.i64.wrap (p + ((yieldEs (t.k.take i)).length : Nat) + ((yieldE (t.k.getD i t0)).length : Nat)) = p + ((yieldEs (t.k.take (i + 1))).length : Nat) := by
            rw [w64 (by omega) (by omega)]; omega
          rw [w64 (x := (i : Int) + 1) (by omega) (by omega), e6]
          have := ih (i + 1) (by omega)
          rw [e3, pick_append, ← List.append_assoc] at this
          exact this
      have hd : (decide (z.1 = t.s) && (decide (z.2.1 = p) && decide (z.2.2 = p + ((yieldEs t.k).length : Nat)))) = decide ((t.s, p, p + (((yieldEs t.k).length : Nat) : Int)) = z) := by
        obtain ⟨z1, z2, z3⟩ := z
        rw [Bool.eq_iff_iff]
        simp only [Bool.and_eq_true, decide_eq_true_eq, Prod.mk.injEq]
        exact ⟨fun h => ⟨h.1.symm, h.2.1.symm, h.2.2.symm⟩, fun h => ⟨h.1.symm, h.2.1.symm, h.2.2.symm⟩⟩
      rw [hd]
      refine EvP.dec (fun he => EvP.yes (mX (by show 0 + 1 ≤ _; omega)) (EvP.fn (fun k => spec_l9Find_L31_eq k _ _ _ _) ?_)) (fun he => EvP.fn (fun k => spec_l9Find_L31_eq k _ _ _ _) ?_)
      · rw [treta]
        have := loop [t] (Nat.le_refl _) t.k.length 0 (by omega)
        have e : pick z ((t, t.s, p, p + ((yieldEs t.k).length : Nat)) :: spKs (spF n) t.k p) = [t] ++ pick z (spKs (spF n) t.k p) := by
          unfold pick; rw [List.filter_cons_of_pos (by simpa using he)]; rfl
        rw [e]
        simpa [yieldEs, spKs, pick] using this
      · have := loop [] (Nat.zero_le _) t.k.length 0 (by omega)
        have e : pick z ((t, t.s, p, p + ((yieldEs t.k).length : Nat)) :: spKs (spF n) t.k p) = [] ++ pick z (spKs (spF n) t.k p) := by
          unfold pick; rw [List.filter_cons_of_neg (by simpa using he)]; rfl
        rw [e]
        simpa [yieldEs, spKs, pick] using this
/-! lookup is exact -/
theorem copy_ev : ∀ (n : Nat) (t : Tr), Slim 6 n t → EvP (fun k => spec_l4Copy k t.s t.r t.k) (fun r => r = t)
  | n + 1, t, h => by
    obtain ⟨_, _, _, h4, h5⟩ := h
    have loop : ∀ (q i : Nat), i + q = t.k.length → EvP (fun k => spec_l4Copy_L58 k (t.s, t.r, t.k) ([], (0 : Int), []) (t.s, t.r, t.k.take i) (i : Int)) (fun r => r = t) := by
      intro q
      induction q with
      | zero =>
        intro i hi
        refine EvP.fn (fun k => spec_l4Copy_L58_eq k _ _ _ _) (EvP.decN (by show ¬ (i : Int) < (t.k.length : Int); omega) (EvP.now ?_))
        rw [List.take_of_length_le (by omega)]; exact treta t
      | succ q ih =>
        intro i hi
        have hi1 : (i : Int) < (t.k.length : Int) := by omega
        refine EvP.fn (fun k => spec_l4Copy_L58_eq k _ _ _ _) (EvP.decY hi1 (EvP.yes (by omega) (EvP.yes hi1 ?_)))
        rw [Int.toNat_natCast]
        refine EvP.bind (copy_ev n (t.k.getD i t0) (h5 _ (getD_mem _ _ _ (by omega)))) fun x hx => EvP.yes (mX (by rw [List.length_take]; show _ + 1 ≤ _; omega)) ?_
        subst hx
        rw [w64 (by omega) (by omega), treta]
        have := ih (i + 1) (by omega)
        rw [take_getD t.k i (by omega)] at this
        exact this
    exact EvP.fn (fun k => spec_l4Copy_eq k _ _ _) (loop t.k.length 0 (by omega))
theorem pick_find (q : List UInt8 × Int × Int) (l : List Spot) : (pick q l).head? = (l.find? fun x => decide (x.2 = q)).map (·.1) := by
  unfold pick
  rw [List.head?_map, List.head?_filter]
theorem specFind_ev (t : Tr) (ht : Slim 6 10 t) (p : List UInt8 × Int × Int) : EvP (fun k => spec_TreeFind k t.s t.r t.k p.1 p.2.1 p.2.2) (Found t p) := by
  have hb := sz_le 10 t ht 10
  have hb2 : 7 ^ 10 = 282475249 := by decide
  have hy := yield_le 10 t ht
  refine EvP.fn (fun k => spec_TreeFind_eq k _ _ _ _ _ _) (EvP.bind (l9Find_ev p 10 t 0 (by omega) ht (by omega) (by omega)) fun x hx => ?_)
  have hh := pick_find p (spF 10 t 0)
  rw [← hx] at hh
  refine EvP.dec (fun h0 => EvP.now ?_) (fun h0 => ?_)
  · have h0 : x = [] := List.eq_nil_of_length_eq_zero (by omega)
    rw [h0] at hh
    unfold Found
    cases hf : (spF 10 t 0).find? (fun x => decide (x.2 = p)) with
    | none => rfl
    | some y => rw [hf] at hh; cases hh
  · match x, hh, h0 with
    | [], _, h0 => exact absurd rfl h0
    | u :: l, hh, h0 =>
      cases hf : (spF 10 t 0).find? (fun x => decide (x.2 = p)) with
      | none => rw [hf] at hh; cases hh
      | some y =>
        rw [hf] at hh
        have hh : u = y.1 := by simpa using hh
        have hs := spF_slim 10 t 0 ht y (List.mem_of_find?_eq_some hf)
        refine EvP.yes (by omega) (EvP.yes (by simp only [List.length_cons]; omega) (EvP.bind (copy_ev 10 u (hh ▸ hs)) fun z hz => EvP.now ?_))
        unfold Found
        rw [hf, hz, hh, treta]
theorem eqQ (a b : List UInt8 × Int × Int) : (decide (a.1 = b.1) && (decide (a.2.1 = b.2.1) && decide (a.2.2 = b.2.2))) = decide (a = b) := by
  obtain ⟨a1, a2, a3⟩ := a
  obtain ⟨b1, b2, b3⟩ := b
  rw [Bool.eq_iff_iff]
  simp only [Bool.and_eq_true, decide_eq_true_eq, Prod.mk.injEq]
theorem law_loop (p : List UInt8 × Int × Int) (b : Bool) (l : List (List UInt8 × Int × Int)) (hl : l.length ≤ 10000000000) : ∀ (q i : Nat) (c : Bool), i + q = l.length → (b = true ↔ c = true ∨ p ∈ l.drop i) → EvP (fun k => laws_FnTreeFind_L4090 k p b l c (i : Int)) (fun r => r = true)
  | 0, i, c, h, hc => by
    rw [List.drop_eq_nil_of_le (by omega)] at hc
    refine EvP.fn (fun k => laws_FnTreeFind_L4090_eq k _ _ _ _ _) (EvP.decN (by omega) (EvP.now (decide_eq_true ?_)))
    have hc : b = true ↔ c = true := by simpa using hc
    exact Bool.eq_iff_iff.2 hc
  | q + 1, i, c, h, hc => by
    rw [drop_cons l i ([], 0, 0) (by omega)] at hc
    refine EvP.fn (fun k => laws_FnTreeFind_L4090_eq k _ _ _ _ _) (EvP.decY (by omega) (EvP.ite (fun h0 => EvP.yes (by omega) (EvP.yes (by omega) ?_)) (fun h0 => ?_)))
    · rw [Int.toNat_natCast, w64 (by omega) (by omega), eqQ]
      refine law_loop p b l hl q (i + 1) _ (by omega) ?_
      rw [hc, h0, List.mem_cons, decide_eq_true_eq]
      constructor
      · rintro (h | h | h)
        · cases h
        · exact .inl h.symm
        · exact .inr h
      · rintro (h | h)
        · exact .inr (.inl h.symm)
        · exact .inr (.inr h)
    · rw [w64 (by omega) (by omega)]
      refine law_loop p b l hl q (i + 1) _ (by omega) ?_
      have h0 : c = true := by simpa using h0
      rw [hc, h0]
      exact ⟨fun _ => .inl rfl, fun _ => .inl rfl⟩
theorem drawFind_ev (l : List Int) (h : ∀ x ∈ l, (Lit.int .u8 x).wf = true) : EvP (fun k => spec_DrawTreeFind k l) (fun r => Slim 6 10 r.1) := by
  refine EvP.fn (fun k => spec_DrawTreeFind_eq k _) (EvP.bind (open_ev l h) fun o ho => EvP.bind (some3_ev (m := 3000000) (ho.less (by omega))) fun s hs => ?_)
  obtain ⟨hg, ht, hr⟩ := hs
  have hb := sz_le 10 s.2.1 ht 10
  have hb2 : 7 ^ 10 = 282475249 := by decide
  have hl := spF_len 10 s.2.1 0
  refine EvP.bind (specParts_ev s.2.1 ht) fun x hx => ?_
  have hxl : x.length ≤ 282475249 := by rw [hx, List.length_map]; omega
  have last : ∀ {m : Nat} {b : List Int} {p : Int}, Rd (m + 10) b p → EvP (fun k => (spec_l17Rd_of k b p [(ByteArray.mk #[(65 : UInt8)]).data.toList, (ByteArray.mk #[(66 : UInt8)]).data.toList, (ByteArray.mk #[(97 : UInt8)]).data.toList]).bind fun x_2 => (spec_l17Rd_pick k x_2.snd.fst x_2.snd.snd (4 : Int)).bind fun x_3 => (spec_l17Rd_pick k x_3.snd.fst x_3.snd.snd (5 : Int)).bind fun x_4 => some (Tr.mk s.2.1.s s.2.1.r s.2.1.k, x_2.fst, x_3.fst, x_4.fst)) (fun r => Slim 6 10 r.1) := fun {m b p} hr =>
    EvP.bind (of_ev (m := m + 9) (hr.less (by omega)) _ (by simp) (by simp)) fun a ha => EvP.bind (pick_ev (m := m + 8) (ha.2.less (by omega)) (by omega) (by omega)) fun c hc => EvP.bind (pick_ev (m := m + 7) (hc.2.2.less (by omega)) (by omega) (by omega)) fun d hd => EvP.now (by rw [treta]; exact ht)
  refine EvP.dec (fun h0 => EvP.bind (pick_ev (m := 2000000) (hr.less (by omega)) (by omega) (by omega)) fun a ha => EvP.dec (fun _ => EvP.bind (pick_ev (m := 1000000) (ha.2.2.less (by omega)) (by omega) (by omega)) fun c hc => EvP.yes hc.1 (EvP.yes hc.2.1 (EvP.now (by rw [treta]; exact ht)))) (fun _ => last (m := 1000) (ha.2.2.less (by omega)))) (fun _ => last (m := 1000) (hr.less (by omega)))
theorem law_ev (l : List Int) (h : ∀ x ∈ l, (Lit.int .u8 x).wf = true) : EvP (fun k => laws_FnTreeFind k l) (fun r => r = true) := by
  refine EvP.fn (fun k => laws_FnTreeFind_eq k _) (EvP.dec (fun _ => EvP.now rfl) (fun _ => EvP.bind (drawFind_ev l h) fun x ht => ?_))
  have hb := sz_le 10 x.1 ht 10
  have hb2 : 7 ^ 10 = 282475249 := by decide
  have hl := spF_len 10 x.1 0
  refine EvP.bind (implFind_ev x.1 ht x.2) fun r1 h1 => EvP.bind (specFind_ev x.1 ht x.2) fun r2 h2 => ?_
  have e : r1 = r2 := h1.trans h2.symm
  subst e
  have hsl : Slim 6 11 r1.1 := by
    rw [h1]
    split
    · rename_i y hf
      exact (spF_slim 10 x.1 0 ht y (List.mem_of_find?_eq_some hf)).more (Nat.le_refl _) (by omega)
    · exact ⟨by decide, by decide, by decide, by decide, fun u hu => absurd hu List.not_mem_nil⟩
  refine EvP.notF (fun _ => EvP.bind (sameI_ev 11 r1.1 hsl r1.1) fun b hb => ?_) (fun h => absurd rfl h)
  obtain rfl := hb.2 rfl
  refine EvP.no (by simp) (EvP.bind (implParts_ev x.1 ht) fun y hy => law_loop x.2 r1.2 y (by rw [hy, List.length_map]; omega) y.length 0 false (Nat.zero_add _) ?_)
  rw [List.drop_zero, hy, h1]
  constructor
  · intro h
    right
    split at h
    · rename_i z hf
      have h3 : z.2 = x.2 := by simpa using List.find?_some hf
      exact List.mem_map.2 ⟨z, List.mem_of_find?_eq_some hf, h3⟩
    · cases h
  · rintro (h | h)
    · cases h
    · obtain ⟨z, hz, he⟩ := List.mem_map.1 h
      split
      · rfl
      · rename_i hf
        have := List.find?_eq_none.1 hf z hz
        exact absurd he (by simpa using this)
end Go.Proofs.Ytjdihogbghcajaa.Pure
