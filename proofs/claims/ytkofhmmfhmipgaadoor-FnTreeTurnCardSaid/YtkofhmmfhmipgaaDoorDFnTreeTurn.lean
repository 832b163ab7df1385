/- What the reader of draws answers: they answer, and within which bounds. -/
import Derived.Test.YtkofhmmfhmipgaaDoorEv
import Derived.Test.YtkofhmmfhmipgaaDoorEqFnTreeTurn
namespace Go.Proofs.YtkofhmmfhmipgaaDoor.Pure
open Go Go.Proofs.YtkofhmmfhmipgaaDoor.Eng Go.Proofs.YtkofhmmfhmipgaaDoor.Eq Go.Proofs.YtkofhmmfhmipgaaDoor.Ev
set_option autoImplicit false
set_option linter.unusedVariables false
set_option linter.unusedSimpArgs false
set_option linter.unnecessarySimpa false

def Bytes (s : List Int) : Prop := (∀ x ∈ s, 0 ≤ x ∧ x ≤ 255) ∧ s.length ≤ 2000
/-- A reader, m draws ahead. -/
def Rd (m : Nat) (b : List Int) (p : Int) : Prop := Bytes b ∧ 0 ≤ p ∧ p + m ≤ 100000000
theorem Rd.less {m n : Nat} {b : List Int} {p : Int} (h : Rd m b p) (hn : n ≤ m) : Rd n b p := ⟨h.1, h.2.1, by have := h.2.2; omega⟩

theorem open_ev (l : List Int) (h : ∀ x ∈ l, (Lit.int .u8 x).wf = true) : EvP (fun k => spec_l17Open k l) (fun r => Rd 100000000 r.1 r.2) := by
  refine EvP.fn (fun k => spec_l17Open_eq k l) (EvP.dec (fun h1 => ?_) (fun h1 => ?_))
  · refine EvP.yes (by omega) (EvP.yes (by omega) (EvP.yes (by omega) (EvP.now ⟨⟨fun x hx => wf_byte (h x ?_), ?_⟩, by simp, by simp⟩)))
    · exact List.mem_of_mem_take (List.mem_of_mem_drop hx)
    · simp; omega
  · exact EvP.now ⟨⟨fun x hx => wf_byte (h x hx), by show l.length ≤ 2000; omega⟩, by simp, by simp⟩

theorem pick_ev {m : Nat} {b : List Int} {p : Int} (hr : Rd (m + 1) b p) {n : Int} (hn : 1 ≤ n) (hn2 : n ≤ 1000000000) :
    EvP (fun k => spec_l17Rd_pick k b p n) (fun r => 0 ≤ r.1 ∧ r.1 < n ∧ Rd m r.2.1 r.2.2) := by
  obtain ⟨⟨hb, hl⟩, hp, hp2⟩ := hr
  have e1 : IntKind.i64.wrap (p + 1) = p + 1 := w64 (by omega) (by omega)
  have e2 : IntKind.i64.wrap (p + 1 - 1) = p := by rw [w64 (by omega) (by omega)]; omega
  have fin : ∀ x : Int, 0 ≤ x ∧ x < n → (0 ≤ (x, b, p + 1).1 ∧ (x, b, p + 1).1 < n ∧ Rd m (x, b, p + 1).2.1 (x, b, p + 1).2.2) := fun x h => ⟨h.1, h.2, ⟨hb, hl⟩, by show 0 ≤ p + 1; omega, by show p + 1 + m ≤ 100000000; omega⟩
  refine EvP.fn (fun k => spec_l17Rd_pick_eq k b p n) ?_
  rw [e1, e2]
  refine EvP.decF (fun _ => ?_) (fun h => absurd h (by omega))
  refine EvP.dec (fun h0 => EvP.now (fin 0 (by omega))) (fun h0 => ?_)
  refine EvP.dec (fun h1 => ?_) (fun h1 => ?_)
  · refine EvP.yes hp (EvP.yes h1 (EvP.no (by omega) (EvP.now (fin _ ?_))))
    have hx := getD_byte hb p.toNat
    rw [w64 (by omega) (by omega)]
    exact tmod_range _ n hx.1 hn
  · have hL : (1 : Int) ≤ b.length := by omega
    have t1 := tmod_range p b.length hp hL
    have e3 : IntKind.i64.wrap (p * 7) = p * 7 := w64 (by omega) (by omega)
    have e4 : IntKind.i64.wrap (p * 7 + 3) = p * 7 + 3 := w64 (by omega) (by omega)
    have t2 := tmod_range (p * 7 + 3) b.length (by omega) hL
    rw [e3, e4]
    refine EvP.no (by omega) (EvP.yes t1.1 (EvP.yes t1.2 (EvP.no (by omega) (EvP.yes t2.1 (EvP.yes t2.2 (EvP.no (by omega) (EvP.no (by omega) (EvP.now (fin _ ?_)))))))))
    generalize hA : b.getD (p.tmod b.length).toNat 0 = A
    generalize hB : b.getD ((p * 7 + 3).tmod b.length).toNat 0 = B'
    have hA' := getD_byte hb (p.tmod b.length).toNat
    have hB' := getD_byte hb ((p * 7 + 3).tmod b.length).toNat
    rw [hA] at hA'
    rw [hB] at hB'
    have hq : 0 ≤ Int.tdiv p b.length ∧ Int.tdiv p b.length ≤ p := ⟨Int.tdiv_nonneg hp (by omega), by
      rw [Int.tdiv_eq_ediv_of_nonneg hp]; exact Int.ediv_le_self _ hp⟩
    generalize Int.tdiv p b.length = Q at hq
    rw [w64 (x := A) (by omega) (by omega), w64 (x := B') (by omega) (by omega), w64 (x := A * 131) (by omega) (by omega), w64 (x := B' * 1117) (by omega) (by omega), w64 (x := p * 29) (by omega) (by omega), w64 (x := Q) (by omega) (by omega), w64 (x := Q * 53) (by omega) (by omega), w64 (x := A * 131 + B' * 1117) (by omega) (by omega), w64 (x := A * 131 + B' * 1117 + p * 29) (by omega) (by omega), w64 (x := A * 131 + B' * 1117 + p * 29 + Q * 53) (by omega) (by omega)]
    generalize hX : A * 131 + B' * 1117 + p * 29 + Q * 53 = X
    have hX1 : 0 ≤ X ∧ X ≤ 100000000000 := by omega
    have hd : 0 ≤ Int.tdiv X 64 ∧ Int.tdiv X 64 ≤ X := ⟨Int.tdiv_nonneg hX1.1 (by omega), by
      rw [Int.tdiv_eq_ediv_of_nonneg hX1.1]; exact Int.ediv_le_self _ hX1.1⟩
    generalize Int.tdiv X 64 = Y at hd
    rw [w64 (x := Y) (by omega) (by omega)]
    exact tmod_range (bxor X Y) n (xor_nonneg X Y (by omega) (by omega) (by omega) (by omega)) hn
theorem num_ev {m : Nat} {b : List Int} {p : Int} (hr : Rd (m + 1) b p) (l : List Int) (hl : 1 ≤ l.length) (hl2 : l.length ≤ 1000) :
    EvP (fun k => spec_l17Rd_num k b p l) (fun r => r.1 ∈ l ∧ Rd m r.2.1 r.2.2) := by
  refine EvP.fn (fun k => spec_l17Rd_num_eq k b p l) (EvP.bind (pick_ev hr (n := l.length) (by omega) (by omega)) fun a ha => ?_)
  exact EvP.yes ha.1 (EvP.yes ha.2.1 (EvP.now ⟨getD_mem _ _ _ (by omega), ha.2.2⟩))
theorem of_ev {m : Nat} {b : List Int} {p : Int} (hr : Rd (m + 1) b p) (l : List (List UInt8)) (hl : 1 ≤ l.length) (hl2 : l.length ≤ 1000) :
    EvP (fun k => spec_l17Rd_of k b p l) (fun r => r.1 ∈ l ∧ Rd m r.2.1 r.2.2) := by
  refine EvP.fn (fun k => spec_l17Rd_of_eq k b p l) (EvP.bind (pick_ev hr (n := l.length) (by omega) (by omega)) fun a ha => ?_)
  exact EvP.yes ha.1 (EvP.yes ha.2.1 (EvP.now ⟨getD_mem _ _ _ (by omega), ha.2.2⟩))
/-! signs -/
def small (c : UInt8) : Bool := decide (97 ≤ c.toNat) && decide (c.toNat ≤ 100)
theorem l1Small_ev (c : UInt8) : EvP (fun k => spec_l1Small k ((c.toNat : Nat) : Int)) (fun r => r = small c) := by
  refine EvP.fn (fun k => spec_l1Small_eq k _) (EvP.dec (fun h => EvP.now ?_) (fun h => EvP.now ?_))
  · have h1 : 97 ≤ c.toNat := by omega
    have e : decide ((c.toNat : Int) ≤ 100) = decide (c.toNat ≤ 100) := by congr 1; exact propext ⟨fun h => by omega, fun h => by omega⟩
    rw [e]; simp [small, h1]
  · have h1 : ¬ 97 ≤ c.toNat := by omega
    simp [small, h1]
theorem drop_cons {α : Type} (l : List α) (i : Nat) (d : α) (h : i < l.length) : l.drop i = l.getD i d :: l.drop (i + 1) := by
  rw [List.drop_eq_getElem_cons h, List.getD_eq_getElem?_getD, List.getElem?_eq_getElem h]; rfl
/-! grammars drawn -/
abbrev GramT := List UInt8 × List (List UInt8 × List UInt8)
/-- At most n rules, all short. -/
def Gr (n : Nat) (g : GramT) : Prop := g.1.length ≤ 5 ∧ g.2.length ≤ n ∧ ∀ x ∈ g.2, x.1.length ≤ 5 ∧ x.2.length ≤ 5
theorem mG {n : Nat} (h : n ≤ 1000000) : n < maxLenE := by unfold maxLenE; omega
theorem Gr.more {n m : Nat} {g : GramT} (h : Gr n g) (hm : n ≤ m) : Gr m g := ⟨h.1, by have := h.2.1; omega, h.2.2⟩
theorem Gr.add {n : Nat} {g : GramT} (h : Gr n g) (x : List UInt8 × List UInt8) (hx : x.1.length ≤ 5 ∧ x.2.length ≤ 5) : Gr (n + 1) (g.1, g.2 ++ [x]) :=
  ⟨h.1, by have := h.2.1; simp; omega, fun y hy => by
    rcases List.mem_append.1 hy with hy | hy
    · exact h.2.2 y hy
    · rw [List.mem_singleton.1 hy]; exact hx⟩
theorem Gr.set {n : Nat} {g : GramT} (h : Gr n g) (i : Nat) (x : List UInt8 × List UInt8) (hx : x.1.length ≤ 5 ∧ x.2.length ≤ 5) : Gr n (g.1, g.2.set i x) :=
  ⟨h.1, by have := h.2.1; simp; omega, fun y hy => by
    rcases List.mem_or_eq_of_mem_set hy with hy | hy
    · exact h.2.2 y hy
    · rw [hy]; exact hx⟩
theorem Gr.at {n : Nat} {g : GramT} (h : Gr n g) (i : Nat) (hi : i < g.2.length) : (g.2.getD i ([], [])).1.length ≤ 5 ∧ (g.2.getD i ([], [])).2.length ≤ 5 := h.2.2 _ (getD_mem _ _ _ hi)
theorem signed_loop : ∀ (n m : Nat) {b : List Int} {p : Int} (t : List UInt8) (i N : Int), i + n = N → 0 ≤ i → N ≤ 1000 → Rd (m + n) b p → t.length ≤ i → EvP (fun k => spec_l1Signed_L58 k (b, p) N t i) (fun r => r.1.length ≤ N ∧ Rd m r.2.1 r.2.2)
  | 0, m, b, p, t, i, N, h, h0, hN, hr, ht => by
    refine EvP.fn (fun k => spec_l1Signed_L58_eq k _ _ _ _) (EvP.decN (by omega) (EvP.now ⟨by show (t.length : Int) ≤ N; omega, hr⟩))
  | n + 1, m, b, p, t, i, N, h, h0, hN, hr, ht => by
    refine EvP.fn (fun k => spec_l1Signed_L58_eq k _ _ _ _) (EvP.decY (by omega) ?_)
    refine EvP.bind (of_ev (m := m + n) (hr.less (by omega)) _ (by simp) (by simp)) fun a ha => ?_
    have hl : a.1.length = 1 := by
      have := ha.1
      simp only [List.mem_cons, List.not_mem_nil, or_false] at this
      rcases this with h | h | h | h | h | h | h | h | h <;> rw [h] <;> rfl
    refine EvP.yes (by omega) ?_
    rw [w64 (by omega) (by omega)]
    exact signed_loop n m _ (i + 1) N (by omega) (by omega) hN ha.2 (by simp [hl]; omega)
theorem signed_ev {m n : Nat} {b : List Int} {p : Int} {N : Int} (h0 : 0 ≤ N) (hN : N ≤ n) (hn : n ≤ 1000) (hr : Rd (m + n) b p) : EvP (fun k => spec_l1Signed k b p N) (fun r => r.1.length ≤ N ∧ Rd m r.2.1 r.2.2) := by
  obtain ⟨N', rfl⟩ := Int.eq_ofNat_of_zero_le h0
  exact EvP.fn (fun k => spec_l1Signed_eq k _ _ _) (signed_loop N' m [] 0 _ (by omega) (by omega) (by omega) (hr.less (by omega)) (by simp))
theorem place_loop (l : List (List UInt8 × List UInt8)) (hl : l.length ≤ 1000) (x : List UInt8 × List UInt8) : ∀ (n i : Nat), i + n = l.length → EvP (fun k => spec_l1Place_L26 k l x (i : Int)) (fun r => r < 0 ↔ x ∉ l.drop i)
  | 0, i, h => by
    refine EvP.fn (fun k => spec_l1Place_L26_eq k _ _ _) (EvP.decN (by omega) (EvP.now ?_))
    rw [List.drop_eq_nil_of_le (by omega)]
    exact ⟨fun _ h => absurd h List.not_mem_nil, fun _ => by decide⟩
  | n + 1, i, h => by
    refine EvP.fn (fun k => spec_l1Place_L26_eq k _ _ _) (EvP.decY (by omega) (EvP.yes (by omega) (EvP.yes (by omega) ?_)))
    rw [Int.toNat_natCast, drop_cons l i ([], []) (by omega)]
    refine EvP.ite (fun h' => EvP.now ?_) (fun h' => ?_)
    · simp only [Bool.and_eq_true, decide_eq_true_eq] at h'
      have e : x = l.getD i ([], []) := Prod.ext h'.1.symm h'.2.symm
      exact ⟨fun h => absurd h (by omega), fun h => absurd (e ▸ List.mem_cons_self) h⟩
    · have e : ¬ x = l.getD i ([], []) := fun e => h' (by rw [← e]; simp)
      rw [w64 (by omega) (by omega)]
      refine (place_loop l hl x n (i + 1) (by omega)).mono fun r hr => ?_
      rw [hr, List.mem_cons, not_or]
      exact ⟨fun h => ⟨e, h⟩, fun h => h.2⟩
theorem place_ev (l : List (List UInt8 × List UInt8)) (hl : l.length ≤ 1000) (x y : List UInt8) : EvP (fun k => spec_l1Place k l x y) (fun r => r < 0 ↔ (x, y) ∉ l) := by
  refine EvP.fn (fun k => spec_l1Place_eq k _ _ _) ((place_loop l hl (x, y) l.length 0 (by omega)).mono fun r hr => ?_)
  rw [hr, List.drop_zero]
theorem base_ev (n : Int) : EvP (fun k => spec_l1Base k n) (fun r => Gr 6 r) := by
  refine EvP.fn (fun k => spec_l1Base_eq k _) ?_
  refine EvP.dec (fun _ => EvP.now ?_) (fun _ => EvP.dec (fun _ => EvP.now ?_) (fun _ => EvP.dec (fun _ => EvP.now ?_) (fun _ => EvP.dec (fun _ => EvP.now ?_) (fun _ => EvP.dec (fun _ => EvP.now ?_) (fun _ => EvP.dec (fun _ => EvP.now ?_) (fun _ => EvP.dec (fun _ => EvP.now ?_) (fun _ => EvP.now ?_)))))))
  all_goals (unfold Gr; decide)
theorem gram_loop : ∀ (n m : Nat) {b : List Int} {p : Int} (x g : GramT) (q : Nat), Gr q g → q + n ≤ 100 → Rd (m + 5 * n) b p →
    EvP (fun k => spec_l1Gram_L122 k (b, p) x g (n : Int)) (fun r => Gr (q + n) r.1 ∧ Rd m r.2.1 r.2.2)
  | 0, m, b, p, x, g, q, hg, hq, hr => by
    refine EvP.fn (fun k => spec_l1Gram_L122_eq k _ _ _ _) (EvP.decN (by omega) (EvP.now ⟨hg, hr⟩))
  | n + 1, m, b, p, x, g, q, hg, hq, hr => by
    have hg2 := hg.2.1
    refine EvP.fn (fun k => spec_l1Gram_L122_eq k _ _ _ _) (EvP.decY (by omega) ?_)
    refine EvP.bind (of_ev (m := m + 5 * n + 4) (hr.less (by omega)) _ (by simp) (by simp)) fun a ha => ?_
    have hl : a.1.length = 1 := by
      have := ha.1
      simp only [List.mem_cons, List.not_mem_nil, or_false] at this
      rcases this with h | h | h | h <;> rw [h] <;> rfl
    refine EvP.bind (num_ev (m := m + 5 * n + 3) (ha.2.less (by omega)) _ (by simp) (by simp)) fun c hc => ?_
    have hcb : 0 ≤ c.1 ∧ c.1 ≤ 3 := by
      have := hc.1
      simp only [List.mem_cons, List.not_mem_nil, or_false] at this
      omega
    refine EvP.bind (signed_ev (m := m + 5 * n) (n := 3) hcb.1 (by omega) (by omega) (hc.2.less (by omega))) fun d hd => ?_
    refine EvP.bind (place_ev g.2 (by omega) a.1 d.1) fun e he => ?_
    have e1 : IntKind.i64.wrap (((n + 1 : Nat) : Int) - 1) = (n : Int) := by rw [w64 (by omega) (by have := hr.2.2; omega)]; omega
    rw [e1]
    refine EvP.dec (fun _ => EvP.yes (mG (by simp; omega)) ?_) (fun _ => ?_)
    · exact (gram_loop n m _ _ (q + 1) (hg.add (a.1, d.1) ⟨by show a.1.length ≤ 5; omega, by show d.1.length ≤ 5; omega⟩) (by omega) hd.2).mono fun r hr => ⟨hr.1.more (by omega), hr.2⟩
    · exact (gram_loop n m _ _ q hg (by omega) hd.2).mono fun r hr => ⟨hr.1.more (by omega), hr.2⟩
theorem gram_ev {m : Nat} {b : List Int} {p : Int} (hr : Rd (m + 30) b p) : EvP (fun k => spec_l1Gram k b p) (fun r => Gr 6 r.1 ∧ Rd m r.2.1 r.2.2) := by
  refine EvP.fn (fun k => spec_l1Gram_eq k _ _) (EvP.bind (pick_ev (m := m + 29) hr (by omega) (by omega)) fun a ha => EvP.dec (fun _ => ?_) (fun _ => ?_))
  · refine EvP.bind (num_ev (m := m + 28) ha.2.2 _ (by simp) (by simp)) fun c hc => EvP.bind (base_ev c.1) fun d hd => EvP.now ⟨hd, hc.2.less (by omega)⟩
  · refine EvP.bind (num_ev (m := m + 28) ha.2.2 _ (by simp) (by simp)) fun c hc => ?_
    have hcb : 0 ≤ c.1 ∧ c.1 ≤ 5 := by
      have := hc.1
      simp only [List.mem_cons, List.not_mem_nil, or_false] at this
      omega
    obtain ⟨N, hN⟩ := Int.eq_ofNat_of_zero_le hcb.1
    rw [hN]
    exact (gram_loop N m _ _ 0 ⟨by decide, by decide, by simp⟩ (by omega) (hc.2.less (by omega))).mono fun r hr => ⟨hr.1.more (by omega), hr.2⟩
theorem full_loop : ∀ (n m : Nat) {b : List Int} {p : Int} (x g : GramT) (q : Nat), Gr q g → 9 ≤ g.2.length + n → 9 ≤ q → Rd (m + 3 * n) b p →
    EvP (fun k => spec_l1Bent_L259582 k (b, p) x g) (fun r => Gr q r.1 ∧ Rd m r.2.1 r.2.2)
  | 0, m, b, p, x, g, q, hg, h, hq, hr => by
    refine EvP.fn (fun k => spec_l1Bent_L259582_eq k _ _ _) (EvP.decN (by omega) (EvP.now ⟨hg, hr⟩))
  | n + 1, m, b, p, x, g, q, hg, h, hq, hr => by
    refine EvP.fn (fun k => spec_l1Bent_L259582_eq k _ _ _) (EvP.dec (fun h8 => ?_) (fun _ => EvP.now ⟨hg, hr.less (by omega)⟩))
    refine EvP.bind (signed_ev (m := m + 3 * n) (n := 3) (by omega) (by omega) (by omega) (hr.less (by omega))) fun d hd => ?_
    refine EvP.yes (mG (by simp; omega)) ?_
    have hg8 : Gr 8 g := ⟨hg.1, by omega, hg.2.2⟩
    exact full_loop n m _ _ q ((hg8.add (_, d.1) ⟨by show 1 ≤ 5; decide, by show d.1.length ≤ 5; have := hd.1; omega⟩).more hq) (by simp; omega) hq hd.2
theorem lens {l : List (List UInt8)} {x : List UInt8} (h : x ∈ l) (hl : (l.all fun x => decide (x.length ≤ 5)) = true) : x.length ≤ 5 := of_decide_eq_true (List.all_eq_true.1 hl x h)
theorem bentG_ev {m : Nat} {b : List Int} {p : Int} (hr : Rd (m + 40) b p) (n : Nat) (hn : n ≤ 100) (h8 : 8 ≤ n) (g : GramT) (hg : Gr n g) : EvP (fun k => spec_l1Bent k b p g.1 g.2) (fun r => Gr (n + 1) r.1 ∧ Rd m r.2.1 r.2.2) := by
  have hg2 := hg.2.1
  refine EvP.fn (fun k => spec_l1Bent_eq k _ _ _ _) (EvP.yes (mG (by omega)) (EvP.bind (pick_ev (m := m + 39) hr (by omega) (by omega)) fun a ha => ?_))
  refine EvP.decF (fun _ => EvP.dec (fun _ => EvP.now ⟨hg.more (by omega), ha.2.2.less (by omega)⟩) (fun h0 => ?_)) (fun _ => EvP.now ⟨hg.more (by omega), ha.2.2.less (by omega)⟩)
  refine EvP.bind (pick_ev (m := m + 38) ha.2.2 (by omega) (by omega)) fun c hc => EvP.bind (pick_ev (m := m + 37) hc.2.2 (by omega) (by omega)) fun d hd => ?_
  have hat := hg.at c.1.toNat (by omega)
  refine EvP.dec (fun _ => ?_) (fun _ => EvP.dec (fun _ => ?_) (fun _ => EvP.dec (fun _ => ?_) (fun _ => EvP.dec (fun _ => ?_) (fun _ => ?_))))
  · exact EvP.bind (of_ev (m := m + 36) hd.2.2 _ (by simp) (by simp)) fun e he => EvP.now ⟨⟨lens he.1 (by decide), by show g.2.length ≤ n + 1; omega, hg.2.2⟩, he.2.less (by omega)⟩
  · refine EvP.bind (of_ev (m := m + 36) hd.2.2 _ (by simp) (by simp)) fun e he => ?_
    have hl := lens he.1 (by decide)
    exact EvP.yes hc.1 (EvP.yes hc.2.1 (EvP.now ⟨(hg.set _ (e.1, _) ⟨hl, hat.2⟩).more (by omega), he.2.less (by omega)⟩))
  · refine EvP.bind (of_ev (m := m + 36) hd.2.2 _ (by simp) (by simp)) fun e he => ?_
    have hl := lens he.1 (by decide)
    exact EvP.yes hc.1 (EvP.yes hc.2.1 (EvP.now ⟨(hg.set _ (_, e.1) ⟨hat.1, hl⟩).more (by omega), he.2.less (by omega)⟩))
  · exact EvP.yes hc.1 (EvP.yes hc.2.1 (EvP.yes (mG (by simp; omega)) (EvP.now ⟨hg.add _ hat, hd.2.2.less (by omega)⟩)))
  · exact (full_loop 9 m _ g (n + 1) (hg.more (by omega)) (by omega) (by omega) (hd.2.2.less (by omega)))
def signSmall (s : List UInt8) : Bool := match s with | [c] => small c | _ => false
theorem signSmall_ev (s : List UInt8) : EvP (fun k => spec_SignSmall k s) (fun r => r = signSmall s) := by
  refine EvP.fn (fun k => spec_SignSmall_eq k s) (EvP.dec (fun h => EvP.yes (by omega) (EvP.yes (by omega) (EvP.bind (l1Small_ev _) fun b hb => EvP.now ?_))) (fun h => EvP.now ?_))
  · match s, h with
    | [c], _ => exact hb
  · match s, h with
    | [], _ => rfl
    | [c], h => exact absurd rfl h
    | _ :: _ :: _, _ => rfl
theorem for_loop (s : List UInt8) (g : GramT) (hg : g.2.length ≤ 1000) : ∀ (n i : Nat) (l : List Int), i + n = g.2.length → l.length ≤ i → (∀ j ∈ l, 0 ≤ j ∧ j < g.2.length) →
    EvP (fun k => spec_l1For_L58 k s g l (i : Int)) (fun r => r.length ≤ g.2.length ∧ ∀ j ∈ r, 0 ≤ j ∧ j < g.2.length)
  | 0, i, l, h, hl, hj => by
    refine EvP.fn (fun k => spec_l1For_L58_eq k _ _ _ _) (EvP.decN (by omega) (EvP.now ⟨by omega, hj⟩))
  | n + 1, i, l, h, hl, hj => by
    refine EvP.fn (fun k => spec_l1For_L58_eq k _ _ _ _) (EvP.decY (by omega) (EvP.yes (by omega) (EvP.yes (by omega) ?_)))
    rw [w64 (by omega) (by omega)]
    refine EvP.dec (fun _ => EvP.yes (mG (by simp; omega)) ?_) (fun _ => ?_)
    · refine for_loop s _ hg n (i + 1) _ (by show i + 1 + n = g.2.length; omega) (by simp; omega) fun j hj' => ?_
      rcases List.mem_append.1 hj' with h' | h'
      · exact hj j h'
      · rw [List.mem_singleton.1 h']; constructor
        · omega
        · show (i : Int) < (g.2.length : Int); omega
    · exact for_loop s _ hg n (i + 1) _ (by show i + 1 + n = g.2.length; omega) (by omega) hj
theorem for_ev (g : GramT) (hg : g.2.length ≤ 1000) (s : List UInt8) : EvP (fun k => spec_l1For k g.1 g.2 s) (fun r => r.length ≤ g.2.length ∧ ∀ j ∈ r, 0 ≤ j ∧ j < g.2.length) :=
  EvP.fn (fun k => spec_l1For_eq k _ _ _) (for_loop s g hg g.2.length 0 [] (by omega) (by simp) (fun j h => absurd h List.not_mem_nil))
/-! trees drawn -/
/-- No deeper than n, few kids, short signs. -/
def Slim (w : Nat) : Nat → Tr → Prop
  | 0, _ => False
  | n + 1, t => t.s.length ≤ 5 ∧ -2 ≤ t.r ∧ t.r ≤ 1000 ∧ t.k.length ≤ w ∧ ∀ u ∈ t.k, Slim w n u
theorem Slim.more {w w' : Nat} (hw : w ≤ w') : ∀ {n n' : Nat} {t : Tr}, Slim w n t → n ≤ n' → Slim w' n' t
  | n + 1, n' + 1, t, h, hn => ⟨h.1, h.2.1, h.2.2.1, by have := h.2.2.2.1; omega, fun u hu => (h.2.2.2.2 u hu).more hw (by omega)⟩
theorem Slim.leaf {w n : Nat} {s : List UInt8} (hs : s.length ≤ 5) : Slim w (n + 1) (Tr.mk s (-1) []) :=
  ⟨hs, by show (-2 : Int) ≤ -1; decide, by show (-1 : Int) ≤ 1000; decide, Nat.zero_le _, fun u hu => absurd hu List.not_mem_nil⟩
def Rn : Nat → Nat | 0 => 0 | n + 1 => 1 + 5 * Rn n
theorem anyAt_loop (d : Nat) (hd : d ≤ 1000) (g : GramT) (hg : Gr 100 g)
    (ih : ∀ {m : Nat} {b : List Int} {p : Int}, Rd (m + Rn d) b p → ∀ (s : List UInt8), s.length ≤ 5 → ∀ deep : Int, deep ≤ d → EvP (fun k => spec_l3Any k b p g.1 g.2 s deep) (fun r => Slim 5 (d + 1) (Tr.mk r.1.1 r.1.2.1 r.1.2.2) ∧ Rd m r.2.1 r.2.2))
    (j : Int) (h0 : 0 ≤ j) (hj : j < g.2.length) (deep : Int) (h1 : 1 ≤ deep) (hdeep : deep ≤ d + 1) :
    ∀ (n i m : Nat) {b : List Int} {p : Int} (z t : List UInt8 × Int × List Tr), i + n = (g.2.getD j.toNat ([], [])).2.length → t.2.2.length = i → t.1.length ≤ 5 → -2 ≤ t.2.1 → t.2.1 ≤ 1000 → (∀ u ∈ t.2.2, Slim 5 (d + 1) u) → Rd (m + n * Rn d) b p →
    EvP (fun k => spec_l3Any_L2042 k (b, p) deep g z j t (i : Int)) (fun r => Slim 5 (d + 2) (Tr.mk r.1.1 r.1.2.1 r.1.2.2) ∧ Rd m r.2.1 r.2.2)
  | 0, i, m, b, p, z, t, h, ht, hs, hr1, hr2, hk, hr => by
    have hat := (hg.at j.toNat (by omega)).2
    refine EvP.fn (fun k => spec_l3Any_L2042_eq k _ _ _ _ _ _ _) (EvP.yes h0 (EvP.yes hj (EvP.decN (by omega) (EvP.now ⟨⟨hs, hr1, hr2, ?_, hk⟩, hr.less (by omega)⟩))))
    show t.2.2.length ≤ 5; omega
  | n + 1, i, m, b, p, z, t, h, ht, hs, hr1, hr2, hk, hr => by
    have hat := (hg.at j.toNat (by omega)).2
    have e1 : IntKind.i64.wrap ((i : Int) + 1) = ((i + 1 : Nat) : Int) := w64 (by omega) (by omega)
    have e2 : IntKind.i64.wrap (deep - 1) = deep - 1 := w64 (by omega) (by omega)
    refine EvP.fn (fun k => spec_l3Any_L2042_eq k _ _ _ _ _ _ _) (EvP.yes h0 (EvP.yes hj (EvP.decY (by omega) (EvP.yes h0 (EvP.yes hj ?_)))))
    rw [e1, e2]
    refine EvP.yes (by omega) (EvP.yes (by omega) (EvP.yes (by omega) ?_))
    have hm : m + (n + 1) * Rn d = m + n * Rn d + Rn d := by rw [Nat.succ_mul]; omega
    refine EvP.bind (ih (m := m + n * Rn d) (hm ▸ hr) _ (by rw [List.length_drop, List.length_take]; omega) (deep - 1) (by omega)) fun a ha => EvP.yes (mG (by simp; omega)) ?_
    refine anyAt_loop d hd g hg ih j h0 hj deep h1 hdeep n (i + 1) m _ _ (by omega) (by simp; omega) hs hr1 hr2 (fun u hu => ?_) ha.2
    rcases List.mem_append.1 hu with hu | hu
    · exact hk u hu
    · rw [List.mem_singleton.1 hu]; exact ha.1
theorem least_loop (d : Nat) (g : GramT) (hg : Gr 100 g) (l : List Int) (hl : ∀ j ∈ l, 0 ≤ j ∧ j < g.2.length) (hl2 : l.length ≤ 1000) (Q : ((List UInt8 × Int × List Tr) × List Int × Int) → Prop) (s : List UInt8) (deep : Int) (z : List UInt8 × Int × List Tr) (b : List Int) (p : Int)
    (nx : ∀ j : Int, 0 ≤ j → j < g.2.length → EvP (fun k => spec_l3Any_L127 k (b, p) s deep g z j) Q) : ∀ (n i : Nat) (j : Int), i + n = l.length → 0 ≤ j → j < g.2.length →
    EvP (fun k => spec_l3Any_L2026 k (b, p) s deep g z l j (i : Int)) Q
  | 0, i, j, h, h0, hj => EvP.fn (fun k => spec_l3Any_L2026_eq k _ _ _ _ _ _ _ _) (EvP.decN (by omega) (nx j h0 hj))
  | n + 1, i, j, h, h0, hj => by
    have hi := hl _ (getD_mem l i 0 (by omega))
    refine EvP.fn (fun k => spec_l3Any_L2026_eq k _ _ _ _ _ _ _ _) (EvP.decY (by omega) (EvP.yes (by omega) (EvP.yes (by omega) ?_)))
    rw [Int.toNat_natCast, w64 (by omega) (by omega)]
    refine EvP.yes hi.1 (EvP.yes hi.2 (EvP.yes h0 (EvP.yes hj (EvP.dec (fun _ => EvP.yes (by omega) (EvP.yes (by omega) ?_)) (fun _ => ?_)))))
    · exact least_loop d g hg l hl hl2 Q s deep z b p nx n (i + 1) _ (by omega) hi.1 hi.2
    · exact least_loop d g hg l hl hl2 Q s deep z b p nx n (i + 1) _ (by omega) h0 hj
theorem any_ev (g : GramT) (hg : Gr 100 g) : ∀ (d : Nat), d ≤ 1000 → ∀ {m : Nat} {b : List Int} {p : Int}, Rd (m + Rn d) b p → ∀ (s : List UInt8), s.length ≤ 5 → ∀ deep : Int, deep ≤ d →
    EvP (fun k => spec_l3Any k b p g.1 g.2 s deep) (fun r => Slim 5 (d + 1) (Tr.mk r.1.1 r.1.2.1 r.1.2.2) ∧ Rd m r.2.1 r.2.2) := by
  have hg2 := hg.2.1
  intro d
  induction d with
  | zero =>
    intro _ m b p hr s hs deep hd
    have z : Slim 5 1 (Tr.mk s (-1) []) := Slim.leaf hs
    refine EvP.fn (fun k => spec_l3Any_eq k _ _ _ _ _ _) (EvP.bind (signSmall_ev s) fun x hx => EvP.ite (fun _ => EvP.now ⟨z, hr.less (by omega)⟩) (fun _ => EvP.bind (for_ev g (by omega) s) fun l hl => ?_))
    exact EvP.decF (fun _ => EvP.decY (by omega) (EvP.now ⟨z, hr.less (by omega)⟩)) (fun _ => EvP.now ⟨z, hr.less (by omega)⟩)
  | succ d ih =>
    intro hd m b p hr s hs deep hdeep
    have z : Slim 5 (d + 2) (Tr.mk s (-1) []) := Slim.leaf hs
    refine EvP.fn (fun k => spec_l3Any_eq k _ _ _ _ _ _) (EvP.bind (signSmall_ev s) fun x hx => EvP.ite (fun _ => EvP.now ⟨z, hr.less (by omega)⟩) (fun _ => EvP.bind (for_ev g (by omega) s) fun l hl => ?_))
    refine EvP.decF (fun hl0 => EvP.dec (fun _ => EvP.now ⟨z, hr.less (by omega)⟩) (fun hdp => ?_)) (fun _ => EvP.now ⟨z, hr.less (by omega)⟩)
    have hR : Rn (d + 1) = 1 + 5 * Rn d := rfl
    refine EvP.bind (pick_ev (m := m + 5 * Rn d) (hr.less (by omega)) (by omega) (by omega)) fun c hc => EvP.yes hc.1 (EvP.yes hc.2.1 ?_)
    have hj := hl.2 _ (getD_mem l c.1.toNat 0 (by omega))
    have nx : ∀ j : Int, 0 ≤ j → j < g.2.length → EvP (fun k => spec_l3Any_L127 k (c.2.1, c.2.2) s deep g ([], 0, []) j) (fun r => Slim 5 (d + 2) (Tr.mk r.1.1 r.1.2.1 r.1.2.2) ∧ Rd m r.2.1 r.2.2) := fun j h0 hj => by
      have hat := (hg.at j.toNat (by omega)).2
      have hm : (g.2.getD j.toNat ([], [])).2.length * Rn d ≤ 5 * Rn d := Nat.mul_le_mul_right _ hat
      refine EvP.fn (fun k => spec_l3Any_L127_eq k _ _ _ _ _ _) ?_
      exact anyAt_loop d (by omega) g hg (fun hr => ih (by omega) hr) j h0 hj deep (by omega) (by omega) (g.2.getD j.toNat ([], [])).2.length 0 m _ (s, j, []) (by omega) rfl hs (by show -2 ≤ j; omega) (by show j ≤ 1000; omega) (fun u hu => absurd hu List.not_mem_nil) (hc.2.2.less (by omega))
    exact EvP.dec (fun _ => least_loop d g hg l hl.2 (by omega) _ s deep _ _ _ nx l.length 0 _ (by omega) hj.1 hj.2) (fun _ => nx _ hj.1 hj.2)
theorem some3_ev {m : Nat} {b : List Int} {p : Int} (hr : Rd (m + 1000000) b p) : EvP (fun k => spec_l3Some k b p) (fun r => Gr 10 r.1 ∧ Slim 6 10 r.2.1 ∧ Rd m r.2.2.1 r.2.2.2) := by
  have hR : Rn 8 = 97656 := by decide
  refine EvP.fn (fun k => spec_l3Some_eq k _ _) (EvP.bind (gram_ev (m := m + 900000) (hr.less (by omega))) fun g hg => EvP.bind (num_ev (m := m + 800000) (hg.2.less (by omega)) _ (by simp) (by simp)) fun a ha => ?_)
  have had : a.1 ≤ 8 := by
    have := ha.1
    simp only [List.mem_cons, List.not_mem_nil, or_false] at this
    omega
  refine EvP.bind (any_ev g.1 (hg.1.more (by omega)) 8 (by omega) (m := m + 600000) (ha.2.less (by omega)) g.1.1 hg.1.1 a.1 had) fun t ht => ?_
  refine EvP.bind (pick_ev (m := m + 500000) (ht.2.less (by omega)) (by omega) (by omega)) fun c hc => ?_
  obtain ⟨t1, t2, t3, t4', t5'⟩ := ht.1
  have t4' : t.1.2.2.length ≤ 5 := t4'
  have t4 := Nat.le_succ_of_le t4'
  have t5 : ∀ u ∈ t.1.2.2, Slim 6 9 u := fun u hu => (t5' u hu).more (by decide) (by decide)
  have hg10 := hg.1.more (show 6 ≤ 10 by omega)
  refine EvP.dec (fun _ => ?_) (fun _ => EvP.dec (fun _ => ?_) (fun _ => EvP.dec (fun _ => ?_) (fun _ => EvP.dec (fun _ => ?_) (fun _ => ?_))))
  · refine EvP.bind (num_ev (m := m + 400000) (hc.2.2.less (by omega)) _ (by simp) (by simp)) fun e he => EvP.now ⟨hg10, ⟨t1, ?_, ?_, t4, t5⟩, he.2.less (by omega)⟩
    all_goals
      have := he.1
      simp only [List.mem_cons, List.not_mem_nil, or_false] at this
      show _ ≤ _
      first | (show -2 ≤ e.1; omega) | (show e.1 ≤ 1000; omega)
  · refine EvP.bind (of_ev (m := m + 400000) (hc.2.2.less (by omega)) _ (by simp) (by simp)) fun e he => ?_
    have hl := lens he.1 (by decide)
    exact EvP.now ⟨hg10, ⟨hl, t2, t3, t4, t5⟩, he.2.less (by omega)⟩
  · refine EvP.yes (mG (by simp; omega)) (EvP.now ⟨hg10, ⟨t1, t2, t3, ?_, fun u hu => ?_⟩, hc.2.2.less (by omega)⟩)
    · show (t.1.2.2 ++ _).length ≤ 6
      simp; omega
    · rcases List.mem_append.1 hu with hu | hu
      · exact t5 u hu
      · rw [List.mem_singleton.1 hu]; exact Slim.leaf (by decide)
  · refine EvP.bind (bentG_ev (m := m + 400000) (hc.2.2.less (by omega)) 8 (by omega) (by omega) g.1 (hg.1.more (by omega))) fun e he => EvP.bind (bentG_ev (m := m + 300000) (he.2.less (by omega)) 9 (by omega) (by omega) e.1 he.1) fun f hf => ?_
    exact EvP.now ⟨hf.1, ⟨t1, t2, t3, t4, t5⟩, hf.2.less (by omega)⟩
  · exact EvP.now ⟨hg10, ⟨t1, t2, t3, t4, t5⟩, hc.2.2.less (by omega)⟩
/-! strings.Trim -/
theorem dropWhile_all {α : Type} (p : α → Bool) : ∀ l : List α, l.dropWhile p = [] ↔ l.all p = true
  | [] => by simp
  | x :: l => by
    rw [List.dropWhile_cons]
    cases h : p x with
    | true => simp only [if_true, List.all_cons, h, Bool.true_and]; exact dropWhile_all p l
    | false => simp [h]
theorem trim_nil (s c : List UInt8) : (trimE s c = []) ↔ s.all c.contains = true := by
  unfold trimE
  rw [List.reverse_eq_nil_iff, dropWhile_all, List.all_reverse, ← dropWhile_all]
  constructor
  · intro h
    have h1 := (dropWhile_all _ _).1 h
    cases hd : s.dropWhile c.contains with
    | nil => exact (dropWhile_all _ _).1 hd
    | cons x l =>
      exfalso
      have h2 : (x :: l).dropWhile c.contains = [] := hd ▸ h
      have h3 : c.contains x = false := by
        have := List.head?_dropWhile_not c.contains s
        rw [hd] at this; simpa using this
      rw [List.dropWhile_cons, h3] at h2
      simp at h2
  · intro h
    rw [(dropWhile_all _ _).2 h]; rfl
/-! grammars that are right -/
def big (c : UInt8) : Bool := decide (65 ≤ c.toNat) && decide (c.toNat ≤ 69)
def signBig (s : List UInt8) : Bool := match s with | [c] => big c | _ => false
def sign (c : UInt8) : Bool := big c || small c
def ruleOk (x : List UInt8 × List UInt8) : Bool := signBig x.1 && (x.2.all sign && decide (x.2.length ≤ 4))
def GramOkP (g : GramT) : Prop := signBig g.1 = true ∧ g.2.length ≤ 8 ∧ ∀ j, j < g.2.length → ruleOk (g.2.getD j ([], [])) = true ∧ g.2.getD j ([], []) ∉ g.2.take j
theorem isIn_ev (s : List UInt8) (lo hi : Nat) : EvP (fun k => impl_isIn k s lo hi) (fun r => r = (match s with | [c] => decide (lo ≤ c.toNat) && decide (c.toNat ≤ hi) | _ => false)) := by
  refine EvP.fn (fun k => impl_isIn_eq k s _ _) (EvP.dec (fun h => EvP.yes (by omega) (EvP.yes (by omega) (EvP.dec (fun h1 => EvP.yes (by omega) (EvP.yes (by omega) (EvP.now ?_))) (fun h1 => EvP.now ?_)))) (fun h => EvP.now ?_))
  · match s, h with
    | [c], _ =>
      have h1 : lo ≤ c.toNat := by have : (lo : Int) ≤ (c.toNat : Int) := h1; omega
      show decide ((c.toNat : Int) ≤ (hi : Int)) = _
      have e : decide ((c.toNat : Int) ≤ (hi : Int)) = decide (c.toNat ≤ hi) := by congr 1; exact propext ⟨fun h => by omega, fun h => by omega⟩
      rw [e]; simp [h1]
  · match s, h with
    | [c], _ =>
      have h1 : ¬ lo ≤ c.toNat := by have : ¬ (lo : Int) ≤ (c.toNat : Int) := h1; omega
      simp [h1]
  · match s, h with
    | [], _ => rfl
    | [c], h => exact absurd rfl h
    | _ :: _ :: _, _ => rfl
theorem implSignBig_ev (s : List UInt8) : EvP (fun k => impl_SignBig k s) (fun r => r = signBig s) :=
  EvP.fn (fun k => impl_SignBig_eq k s) (EvP.bind (isIn_ev s 65 69) fun r hr => EvP.now (by rw [hr]; rfl))
theorem implSignSmall_ev (s : List UInt8) : EvP (fun k => impl_SignSmall k s) (fun r => r = signSmall s) :=
  EvP.fn (fun k => impl_SignSmall_eq k s) (EvP.bind (isIn_ev s 97 100) fun r hr => EvP.now (by rw [hr]; rfl))
def signs : List UInt8 := [65, 66, 67, 68, 69, 97, 98, 99, 100]
set_option maxRecDepth 100000 in
theorem sign_contains (c : UInt8) : signs.contains c = sign c := by
  have key : ∀ n : Nat, n < 256 → signs.contains (UInt8.ofNat n) = sign (UInt8.ofNat n) := by decide +kernel
  have := key c.toNat (UInt8.toNat_lt c)
  rwa [UInt8.ofNat_toNat] at this
theorem areSigns_ev (s : List UInt8) : EvP (fun k => impl_areSigns k s 4) (fun r => r = (s.all sign && decide (s.length ≤ 4))) := by
  refine EvP.fn (fun k => impl_areSigns_eq k _ _) (EvP.dec (fun h => ?_) (fun h => EvP.now ?_))
  · refine EvP.bind (P := fun r => r = trimE s signs) (EvP.fn (fun k => strings_Trim_eq k _ _) (EvP.yes ⟨by omega, by decide, by decide⟩ (EvP.now rfl))) fun r hr => EvP.now ?_
    have e : (signs.contains : UInt8 → Bool) = sign := funext sign_contains
    have h4 : s.length ≤ 4 := by omega
    have := trim_nil s signs
    rw [e] at this
    rw [hr]
    show decide (trimE s signs = []) = _
    simp only [h4, decide_true, Bool.and_true]
    cases hs : s.all sign with
    | true => exact decide_eq_true (this.2 hs)
    | false => exact decide_eq_false (fun h => by rw [this.1 h] at hs; cases hs)
  · have h4 : ¬ s.length ≤ 4 := by omega
    simp [h4]
theorem indexRule_loop (l : List (List UInt8 × List UInt8)) (hl : l.length ≤ 1000) (x : List UInt8 × List UInt8) : ∀ (n i : Nat), i + n = l.length → EvP (fun k => slices_Index_Simpl_Rule_impl_Rule_L26 k l x (l.length : Int) (i : Int)) (fun r => r < 0 ↔ x ∉ l.drop i)
  | 0, i, h => by
    refine EvP.fn (fun k => slices_Index_Simpl_Rule_impl_Rule_L26_eq k _ _ _ _) (EvP.decN (by omega) (EvP.now ?_))
    rw [List.drop_eq_nil_of_le (by omega)]
    exact ⟨fun _ h => absurd h List.not_mem_nil, fun _ => by decide⟩
  | n + 1, i, h => by
    refine EvP.fn (fun k => slices_Index_Simpl_Rule_impl_Rule_L26_eq k _ _ _ _) (EvP.decY (by omega) (EvP.yes (by omega) (EvP.yes (by omega) ?_)))
    rw [Int.toNat_natCast, drop_cons l i ([], []) (by omega)]
    refine EvP.ite (fun h' => EvP.now ?_) (fun h' => ?_)
    · simp only [Bool.and_eq_true, decide_eq_true_eq] at h'
      have e : x = l.getD i ([], []) := Prod.ext h'.1 h'.2
      exact ⟨fun h => absurd h (by omega), fun h => absurd (e ▸ List.mem_cons_self) h⟩
    · have e : ¬ x = l.getD i ([], []) := fun e => h' (by rw [← e]; simp)
      rw [w64 (by omega) (by omega)]
      refine (indexRule_loop l hl x n (i + 1) (by omega)).mono fun r hr => ?_
      rw [hr, List.mem_cons, not_or]
      exact ⟨fun h => ⟨e, h⟩, fun h => h.2⟩
theorem hasRule_ev (l : List (List UInt8 × List UInt8)) (hl : l.length ≤ 1000) (x y : List UInt8) : EvP (fun k => slices_Contains_Simpl_Rule_impl_Rule k l x y) (fun r => r = true ↔ (x, y) ∈ l) := by
  refine EvP.fn (fun k => slices_Contains_Simpl_Rule_impl_Rule_eq k _ _ _) (EvP.bind (P := fun r => r < 0 ↔ (x, y) ∉ l) (EvP.fn (fun k => slices_Index_Simpl_Rule_impl_Rule_eq k _ _ _) ((indexRule_loop l hl (x, y) l.length 0 (by omega)).mono fun r hr => by rw [hr, List.drop_zero])) fun r hr => EvP.now ?_)
  rw [decide_eq_true_iff]
  by_cases h : (x, y) ∈ l
  · exact ⟨fun _ => h, fun _ => by have := mt hr.1 (fun h' => h' h); omega⟩
  · exact ⟨fun h0 => absurd (hr.2 h) (by omega), fun h' => absurd h' h⟩
/-- From a place on. -/
def okFrom (l : List (List UInt8 × List UInt8)) (i : Nat) : Prop := ∀ j, i ≤ j → j < l.length → ruleOk (l.getD j ([], [])) = true ∧ l.getD j ([], []) ∉ l.take j
theorem okFrom_step {l : List (List UInt8 × List UInt8)} {i : Nat} (hi : i < l.length) : okFrom l i ↔ ((ruleOk (l.getD i ([], [])) = true ∧ l.getD i ([], []) ∉ l.take i) ∧ okFrom l (i + 1)) := by
  constructor
  · intro h; exact ⟨h i (Nat.le_refl _) hi, fun j hj hl => h j (by omega) hl⟩
  · rintro ⟨h1, h2⟩ j hj hl
    rcases Nat.eq_or_lt_of_le hj with e | e
    · rw [← e]; exact h1
    · exact h2 j e hl
theorem implGramOk_loop (g : GramT) (hg : g.2.length ≤ 8) : ∀ (n i : Nat), i + n = g.2.length → EvP (fun k => impl_GramOk_L58 k g g.2 (g.2.length : Int) (i : Int)) (fun r => r = true ↔ okFrom g.2 i)
  | 0, i, h => by
    refine EvP.fn (fun k => impl_GramOk_L58_eq k _ _ _ _) (EvP.decN (by omega) (EvP.now ?_))
    exact ⟨fun _ j h1 h2 => by omega, fun _ => rfl⟩
  | n + 1, i, h => by
    refine EvP.fn (fun k => impl_GramOk_L58_eq k _ _ _ _) (EvP.decY (by omega) (EvP.yes (by omega) (EvP.yes (by omega) ?_)))
    rw [Int.toNat_natCast, okFrom_step (by omega)]
    refine EvP.bind (implSignBig_ev _) fun b hb => ?_
    subst hb
    cases h1 : signBig (g.2.getD i ([], [])).1 with
    | false => exact EvP.no (by simp) (EvP.now ⟨fun h => by simp at h, fun h => by have := h.1.1; simp only [ruleOk, h1, Bool.false_and] at this; cases this⟩)
    | true =>
      refine EvP.yes rfl (EvP.bind (areSigns_ev _) fun b hb => ?_)
      subst hb
      cases h2 : ((g.2.getD i ([], [])).2.all sign && decide ((g.2.getD i ([], [])).2.length ≤ 4)) with
      | false => exact EvP.no (by simp) (EvP.now ⟨fun h => by simp at h, fun h => by have := h.1.1; simp only [ruleOk, h1, h2] at this; simp at this⟩)
      | true =>
        have hok : ruleOk (g.2.getD i ([], [])) = true := by simp only [ruleOk, h1, h2, Bool.and_self]
        refine EvP.yes rfl (EvP.yes (by omega) (EvP.yes (by omega) (EvP.yes (by show (i : Int) ≤ (g.2.length : Int); omega) ?_)))
        refine EvP.bind (hasRule_ev _ (by simp; omega) _ _) fun b hb => ?_
        have e : List.drop (Int.toNat 0) (List.take i g.2) = g.2.take i := rfl
        rw [e] at hb
        cases b with
        | true => exact EvP.yes rfl (EvP.now ⟨fun h => by simp at h, fun h => absurd (hb.1 rfl) h.1.2⟩)
        | false =>
          refine EvP.no (by simp) ?_
          rw [w64 (by omega) (by omega)]
          refine (implGramOk_loop g hg n (i + 1) (by omega)).mono fun r hr => ?_
          rw [hr]
          exact ⟨fun h => ⟨⟨hok, fun h' => by have := hb.2 h'; simp at this⟩, h⟩, fun h => h.2⟩
theorem implGramOk_ev (g : GramT) : EvP (fun k => impl_GramOk k g.1 g.2) (fun r => r = true ↔ GramOkP g) := by
  refine EvP.fn (fun k => impl_GramOk_eq k _ _) (EvP.bind (implSignBig_ev _) fun b hb => ?_)
  subst hb
  cases h1 : signBig g.1 with
  | false => exact EvP.no (by simp) (EvP.now ⟨fun h => by simp at h, fun h => by rw [h.1] at h1; cases h1⟩)
  | true =>
    refine EvP.yes rfl (EvP.dec (fun h8 => EvP.now ⟨fun h => by simp at h, fun h => by have := h.2.1; omega⟩) (fun h8 => ?_))
    refine (implGramOk_loop g (by omega) g.2.length 0 (by omega)).mono fun r hr => ?_
    rw [hr]
    exact ⟨fun h => ⟨h1, by omega, fun j hj => h j (Nat.zero_le _) hj⟩, fun h j _ hj => h.2.2 j hj⟩
/-! trees that are right -/
abbrev t0 : Tr := Tr.mk [] 0 []
/-- A tree by rules, so deep at most. -/
def shape (g : GramT) : Nat → Tr → Prop
  | 0, _ => False
  | d + 1, t => (signSmall t.s = true ∧ t.r = -1 ∧ t.k = []) ∨ (signSmall t.s = false ∧ 0 ≤ t.r ∧ t.r < g.2.length ∧ (g.2.getD t.r.toNat ([], [])).1 = t.s ∧ t.k.length = (g.2.getD t.r.toNat ([], [])).2.length ∧
      ∀ i, i < t.k.length → (t.k.getD i t0).s = List.drop i (List.take (i + 1) (g.2.getD t.r.toNat ([], [])).2) ∧ shape g d (t.k.getD i t0))
theorem shape.more {g : GramT} : ∀ {d : Nat} {t : Tr}, shape g d t → shape g (d + 1) t
  | d + 1, t, h => by
    rcases h with h | ⟨h1, h2, h3, h4, h5, h6⟩
    · exact .inl h
    · exact .inr ⟨h1, h2, h3, h4, h5, fun i hi => ⟨(h6 i hi).1, (h6 i hi).2.more⟩⟩
/-- How many signs, so deep. -/
def sz : Nat → Tr → Nat
  | 0, _ => 1
  | d + 1, t => 1 + (t.k.map (sz d)).sum
theorem sz_pos : ∀ (d : Nat) (t : Tr), 1 ≤ sz d t
  | 0, _ => Nat.le_refl _
  | d + 1, t => by unfold sz; omega
theorem sum_le (l : List Tr) (f : Tr → Nat) (c : Nat) (h : ∀ u ∈ l, f u ≤ c) : (l.map f).sum ≤ l.length * c := by
  induction l with
  | nil => simp
  | cons a l ih =>
    have h1 := h a List.mem_cons_self
    have h2 := ih fun u hu => h u (List.mem_cons_of_mem _ hu)
    simp only [List.map_cons, List.sum_cons, List.length_cons, Nat.succ_mul]
    omega
theorem mem_sum (l : List Tr) (f : Tr → Nat) (u : Tr) (h : u ∈ l) : f u ≤ (l.map f).sum := by
  induction l with
  | nil => cases h
  | cons a l ih =>
    simp only [List.map_cons, List.sum_cons]
    rcases List.mem_cons.1 h with rfl | h
    · omega
    · have := ih h; omega
theorem sz_le : ∀ (n : Nat) (t : Tr), Slim 6 n t → ∀ d, sz d t ≤ 7 ^ n
  | n + 1, t, h, 0 => Nat.one_le_pow _ _ (by omega)
  | n + 1, t, h, d + 1 => by
    obtain ⟨_, _, _, h4, h5⟩ := h
    have h6 := sum_le t.k (sz d) (7 ^ n) (fun u hu => sz_le n u (h5 u hu) d)
    have h7 : 1 ≤ 7 ^ n := Nat.one_le_pow _ _ (by omega)
    have h8 : t.k.length * 7 ^ n ≤ 6 * 7 ^ n := Nat.mul_le_mul_right _ h4
    unfold sz
    rw [Nat.pow_succ]; omega
theorem sz_more {w : Nat} : ∀ (n : Nat) (t : Tr), Slim w n t → ∀ d, n ≤ d → sz d t = sz n t
  | n + 1, t, h, d + 1, hd => by
    unfold sz
    congr 2
    exact List.map_congr_left fun u hu => sz_more n u (h.2.2.2.2 u hu) d (by omega)
theorem drop_sum (l : List Tr) (f : Tr → Nat) (i : Nat) (hi : i < l.length) : ((l.drop i).map f).sum = f (l.getD i t0) + ((l.drop (i + 1)).map f).sum := by
  rw [drop_cons l i t0 hi, List.map_cons, List.sum_cons]
theorem drop_sum_le (l : List Tr) (f : Tr → Nat) : ∀ (n i : Nat), i + n = l.length → ((l.drop i).map f).sum ≤ (l.map f).sum
  | n, 0, _ => by rw [List.drop_zero]; exact Nat.le_refl _
  | n, i + 1, h => by
    have := drop_sum_le l f (n + 1) i (by omega)
    rw [drop_sum l f i (by omega)] at this
    omega
theorem isTree_ev (g : GramT) (hg : g.2.length ≤ 1000) : ∀ (d n : Nat), d ≤ 1000 → n ≤ 21 → ∀ (t : Tr), Slim 6 n t → ∀ L : Int, 0 ≤ L → L ≤ 1000 →
    EvP (fun k => impl_isTree k g.1 g.2 t.s t.r t.k (d : Int) L) (fun r => (r.1 = true ↔ shape g d t ∧ (sz d t : Int) ≤ L) ∧ (r.1 = true → r.2 = L - sz d t))
  | 0, n + 1, hd, hn, t, h, L, hL0, hL => by
    have no : ∀ {P : Prop} {x : Int}, ¬ P → ((((false, x) : Bool × Int).1 = true) ↔ P) ∧ (((false, x) : Bool × Int).1 = true → (false, x).2 = L - sz 0 t) := fun hp => ⟨⟨fun h => by simp at h, fun h => absurd h hp⟩, fun h => by simp at h⟩
    refine EvP.fn (fun k => impl_isTree_eq k _ _ _ _ _ _ _) ?_
    exact EvP.decF (fun _ => EvP.decY (by omega) (EvP.now (no fun h => h.1))) (fun _ => EvP.now (no fun h => h.1))
  | d + 1, n + 1, hd, hn, t, h, L, hL0, hL => by
    have no : ∀ {P : Prop} {x : Int}, ¬ P → ((((false, x) : Bool × Int).1 = true) ↔ P) ∧ (((false, x) : Bool × Int).1 = true → (false, x).2 = L - sz (d + 1) t) := fun hp => ⟨⟨fun h => by simp at h, fun h => absurd h hp⟩, fun h => by simp at h⟩
    obtain ⟨_, _, _, h4, h5⟩ := h
    have hp := sz_pos (d + 1) t
    refine EvP.fn (fun k => impl_isTree_eq k _ _ _ _ _ _ _) ?_
    rw [w64 (x := L - 1) (by omega) (by omega)]
    refine EvP.decF (fun hL1 => EvP.decN (by omega) (EvP.bind (implSignSmall_ev _) fun b hb => ?_)) (fun hL1 => EvP.now (no fun h => by have := h.2; omega))
    subst hb
    cases hs : signSmall t.s with
    | true =>
      refine EvP.yes rfl (EvP.dec (fun hr => ?_) (fun hr => EvP.now (no ?_)))
      · by_cases hk : t.k = []
        · refine EvP.now ⟨?_, fun _ => ?_⟩
          · rw [hk]
            exact ⟨fun _ => ⟨.inl ⟨hs, hr, hk⟩, by simp [sz, hk]; omega⟩, fun _ => rfl⟩
          · show L - 1 = L - (sz (d + 1) t : Int)
            simp [sz, hk]
        · refine EvP.now ⟨⟨fun h => ?_, fun h => ?_⟩, fun h => ?_⟩
          · have : ((t.k.length : Int) = 0) := of_decide_eq_true h
            exact absurd (List.eq_nil_of_length_eq_zero (by omega)) hk
          · rcases h.1 with h | h
            · exact absurd h.2.2 hk
            · rw [hs] at h; exact absurd h.1 (by simp)
          · have : ((t.k.length : Int) = 0) := of_decide_eq_true h
            exact absurd (List.eq_nil_of_length_eq_zero (by omega)) hk
      · rintro ⟨hk | hk, _⟩
        · exact hr hk.2.1
        · rw [hs] at hk; exact absurd hk.1 (by simp)
    | false =>
      have get : shape g (d + 1) t → 0 ≤ t.r ∧ t.r < g.2.length ∧ (g.2.getD t.r.toNat ([], [])).1 = t.s ∧ t.k.length = (g.2.getD t.r.toNat ([], [])).2.length ∧
        ∀ i, i < t.k.length → (t.k.getD i t0).s = List.drop i (List.take (i + 1) (g.2.getD t.r.toNat ([], [])).2) ∧ shape g d (t.k.getD i t0) := fun hk => by
        rcases hk with hk | hk
        · rw [hs] at hk; exact absurd hk.1 (by simp)
        · exact hk.2
      refine EvP.no (by simp) (EvP.decF (fun hr0 => EvP.dec (fun hr1 => EvP.now (no fun hk => by have := (get hk.1).2.1; omega)) (fun hr1 => ?_)) (fun hr0 => EvP.now (no fun hk => by have := (get hk.1).1; omega)))
      have hr1' : t.r < (g.2.length : Int) := by omega
      refine EvP.yes (by omega) (EvP.yes hr1' (EvP.notF (fun hl => EvP.notT (fun hk => EvP.now (no fun h => hk (by rw [(get h.1).2.2.2.1]))) (fun hk => ?_)) (fun hl => EvP.now (no fun h => hl (get h.1).2.2.1))))
      have hk : t.k.length = (g.2.getD t.r.toNat ([], [])).2.length := by omega
      have e1 : IntKind.i64.wrap (((d + 1 : Nat) : Int) - 1) = (d : Int) := by rw [w64 (by omega) (by omega)]; omega
      have loop : ∀ (q i : Nat) (M : Int), i + q = t.k.length → 0 ≤ M → M ≤ 1000 → EvP (fun k => impl_isTree_L1018 k ((d + 1 : Nat) : Int) M g ((g.2.getD t.r.toNat ([], [])).1, (g.2.getD t.r.toNat ([], [])).2) t.k (t.k.length : Int) (i : Int))
          (fun r => (r.1 = true ↔ (∀ j, i ≤ j → j < t.k.length → (t.k.getD j t0).s = List.drop j (List.take (j + 1) (g.2.getD t.r.toNat ([], [])).2) ∧ shape g d (t.k.getD j t0)) ∧ ((((t.k.drop i).map (sz d)).sum : Nat) : Int) ≤ M) ∧ (r.1 = true → r.2 = M - ((((t.k.drop i).map (sz d)).sum : Nat) : Int))) := by
        intro q
        induction q with
        | zero =>
          intro i M hi hM0 hM
          refine EvP.fn (fun k => impl_isTree_L1018_eq k _ _ _ _ _ _ _) (EvP.decN (by omega) (EvP.now ?_))
          rw [List.drop_eq_nil_of_le (by omega)]
          exact ⟨⟨fun _ => ⟨fun j h1 h2 => by omega, by simpa using hM0⟩, fun _ => rfl⟩, fun _ => by simp⟩
        | succ q ih =>
          intro i M hi hM0 hM
          have no' : ∀ {P : Prop} {x : Int} {y : Int}, ¬ P → ((((false, x) : Bool × Int).1 = true) ↔ P) ∧ (((false, x) : Bool × Int).1 = true → (false, x).2 = y) := fun hp => ⟨⟨fun h => by simp at h, fun h => absurd h hp⟩, fun h => by simp at h⟩
          have e2 : IntKind.i64.wrap ((i : Int) + 1) = ((i + 1 : Nat) : Int) := by rw [w64 (by omega) (by omega)]; omega
          rw [drop_sum _ _ _ (by omega)]
          refine EvP.fn (fun k => impl_isTree_L1018_eq k _ _ _ _ _ _ _) (EvP.decY (by omega) (EvP.yes (by omega) (EvP.yes (by omega) ?_)))
          rw [e2, Int.toNat_natCast, Int.toNat_natCast, e1]
          refine EvP.yes (by omega) (EvP.yes (by omega) (EvP.yes (by show ((i + 1 : Nat) : Int) ≤ (List.length (g.2.getD t.r.toNat ([], [])).2 : Int); omega) (EvP.notF (fun hsg => ?_) (fun hsg => EvP.now (no' fun h => hsg (h.1 i (Nat.le_refl _) (by omega)).1)))))
          refine EvP.bind (isTree_ev g hg d n (by omega) (by omega) (t.k.getD i t0) (h5 _ (getD_mem _ _ _ (by omega))) M hM0 hM) fun x hx => ?_
          obtain ⟨x, y⟩ := x
          cases x with
          | false => exact EvP.yes rfl (EvP.now (no' fun h => by have := hx.1.2 ⟨(h.1 i (Nat.le_refl _) (by omega)).2, by omega⟩; simp at this))
          | true =>
            obtain ⟨hx1, hx2⟩ := hx.1.1 rfl
            have hy : y = M - sz d (t.k.getD i t0) := hx.2 rfl
            subst hy
            refine EvP.no (by simp) ((ih (i + 1) _ (by omega) (by omega) (by omega)).mono fun r hr => ⟨?_, fun h => ?_⟩)
            · rw [hr.1]
              refine ⟨fun h => ⟨fun j h1 h2 => ?_, by omega⟩, fun h => ⟨fun j h1 h2 => h.1 j (by omega) h2, by omega⟩⟩
              rcases Nat.eq_or_lt_of_le h1 with e | e
              · subst e; exact ⟨hsg, hx1⟩
              · exact h.1 j e h2
            · rw [hr.2 h]; omega
      refine (loop t.k.length 0 (L - 1) (by omega) (by omega) (by omega)).mono fun r hr => ?_
      rw [List.drop_zero] at hr
      have es : sz (d + 1) t = 1 + (t.k.map (sz d)).sum := rfl
      refine ⟨?_, fun h => by rw [hr.2 h]; omega⟩
      rw [hr.1]
      exact ⟨fun h => ⟨.inr ⟨hs, by omega, hr1', hl, hk, fun i hi => h.1 i (Nat.zero_le _) hi⟩, by omega⟩, fun h => ⟨fun i _ hi => (get h.1).2.2.2.2 i hi, by omega⟩⟩
/-- A tree that is right. -/
def TreeOkP (g : GramT) (t : Tr) : Prop := GramOkP g ∧ shape g 20 t ∧ sz 20 t ≤ 60
theorem implTreeOk_ev (g : GramT) (hg : g.2.length ≤ 1000) (n : Nat) (hn : n ≤ 21) (t : Tr) (ht : Slim 6 n t) : EvP (fun k => impl_TreeOk k g.1 g.2 t.s t.r t.k) (fun r => r = true ↔ TreeOkP g t) := by
  refine EvP.fn (fun k => impl_TreeOk_eq k _ _ _ _ _) (EvP.bind (implGramOk_ev g) fun b hb => ?_)
  cases b with
  | false => exact EvP.no (by simp) (EvP.now ⟨fun h => by simp at h, fun h => by have := hb.2 h.1; simp at this⟩)
  | true =>
    refine EvP.yes rfl (EvP.bind (isTree_ev g hg 20 n (by omega) hn t ht 60 (by omega) (by omega)) fun x hx => EvP.now ?_)
    rw [hx.1]
    exact ⟨fun h => ⟨hb.1 rfl, h.1, by omega⟩, fun h => ⟨h.2.1, by have := h.2.2; omega⟩⟩
/-! the size of a tree -/
theorem size_ev : ∀ (n : Nat), n ≤ 21 → ∀ (t : Tr), Slim 6 n t → EvP (fun k => impl_TreeSize k t.s t.r t.k) (fun r => r = (sz n t : Nat))
  | n + 1, hn, t, h => by
    have hb := sz_le (n + 1) t h (n + 1)
    have hb2 : 7 ^ (n + 1) ≤ 7 ^ 21 := Nat.pow_le_pow_right (by omega) hn
    obtain ⟨_, _, _, h4, h5⟩ := h
    have loop : ∀ (q i : Nat) (a : Nat), i + q = t.k.length → a + ((t.k.drop i).map (sz n)).sum ≤ 7 ^ 21 → EvP (fun k => impl_TreeSize_L58 k (a : Int) t.k (t.k.length : Int) (i : Int)) (fun r => r = ((a + ((t.k.drop i).map (sz n)).sum : Nat) : Int)) := by
      intro q
      induction q with
      | zero =>
        intro i a hi ha
        refine EvP.fn (fun k => impl_TreeSize_L58_eq k _ _ _ _) (EvP.decN (by omega) (EvP.now ?_))
        rw [List.drop_eq_nil_of_le (by omega)]; simp
      | succ q ih =>
        intro i a hi ha
        rw [drop_sum _ _ _ (by omega)] at ha ⊢
        refine EvP.fn (fun k => impl_TreeSize_L58_eq k _ _ _ _) (EvP.decY (by omega) (EvP.yes (by omega) (EvP.yes (by omega) ?_)))
        rw [Int.toNat_natCast]
        refine EvP.bind (size_ev n (by omega) (t.k.getD i t0) (h5 _ (getD_mem _ _ _ (by omega)))) fun x hx => ?_
        subst hx
        have e : IntKind.i64.wrap ((a : Int) + (sz n (t.k.getD i t0) : Nat)) = ((a + sz n (t.k.getD i t0) : Nat) : Int) := by rw [w64 (by omega) (by omega)]; omega
        rw [w64 (x := (i : Int) + 1) (by omega) (by omega), e]
        refine (ih (i + 1) _ (by omega) (by omega)).mono fun r hr => ?_
        rw [hr]; congr 1; omega
    refine EvP.fn (fun k => impl_TreeSize_eq k _ _ _) ((loop t.k.length 0 1 (by omega) ?_).mono fun r hr => ?_)
    · rw [List.drop_zero]; unfold sz at hb; omega
    · rw [hr, List.drop_zero]; rfl
/-! trees compared: impl -/
theorem sameI_ev : ∀ (n : Nat) (a : Tr), Slim 6 n a → ∀ c : Tr, EvP (fun k => impl_TreeSame k a.s a.r a.k c.s c.r c.k) (fun r => r = true ↔ a = c)
  | n + 1, a, h, c => by
    obtain ⟨_, _, _, h4, h5⟩ := h
    have loop : ∀ (q i : Nat), i + q = a.k.length → a.k.length = c.k.length → EvP (fun k => slices_EqualFunc_Simpl_Tree_Simpl_Tree_impl_Tree_impl_Tree_L58 k c.k a.k (a.k.length : Int) (i : Int)) (fun r => r = true ↔ a.k.drop i = c.k.drop i) := by
      intro q
      induction q with
      | zero =>
        intro i hi hl
        refine EvP.fn (fun k => slices_EqualFunc_Simpl_Tree_Simpl_Tree_impl_Tree_impl_Tree_L58_eq k _ _ _ _) (EvP.decN (by omega) (EvP.now ?_))
        rw [List.drop_eq_nil_of_le (by omega), List.drop_eq_nil_of_le (by omega)]; simp
      | succ q ih =>
        intro i hi hl
        refine EvP.fn (fun k => slices_EqualFunc_Simpl_Tree_Simpl_Tree_impl_Tree_impl_Tree_L58_eq k _ _ _ _) (EvP.decY (by omega) (EvP.yes (by omega) (EvP.yes (by omega) (EvP.yes (by omega) (EvP.yes (by omega) ?_)))))
        rw [Int.toNat_natCast, drop_cons a.k i (Tr.mk [] 0 []) (by omega), drop_cons c.k i (Tr.mk [] 0 []) (by omega)]
        refine EvP.bind (sameI_ev n (a.k.getD i (Tr.mk [] 0 [])) (h5 _ (getD_mem _ _ _ (by omega))) (c.k.getD i (Tr.mk [] 0 []))) fun x hx => ?_
        refine EvP.ite (fun hf => EvP.now ?_) (fun ht => ?_)
        · have hf : x = false := by simpa using hf
          subst hf
          exact ⟨fun h => by simp at h, fun h => absurd (hx.2 (List.cons.inj h).1) (by simp)⟩
        · have ht : x = true := by simpa using ht
          rw [w64 (by omega) (by omega), hx.1 ht]
          refine (ih (i + 1) (by omega) hl).mono fun r hr => ?_
          rw [hr, List.cons.injEq]; simp
    refine EvP.fn (fun k => impl_TreeSame_eq k _ _ _ _ _ _) (EvP.dec (fun e1 => EvP.dec (fun e2 => ?_) (fun e2 => EvP.now ?_)) (fun e1 => EvP.now ?_))
    · refine EvP.bind (P := fun r => r = true ↔ a.k = c.k) (EvP.fn (fun k => slices_EqualFunc_Simpl_Tree_Simpl_Tree_impl_Tree_impl_Tree_eq k _ _) (EvP.notT (fun h => EvP.now ?_) (fun h => ?_))) fun x hx => EvP.now ?_
      · exact ⟨fun h => by simp at h, fun e => absurd (by rw [e]) h⟩
      · exact (loop a.k.length 0 (by omega) (by omega)).mono fun r hr => hr
      · rw [hx]
        exact ⟨fun h => match a, c, e1, e2, h with | Tr.mk _ _ _, Tr.mk _ _ _, rfl, rfl, rfl => rfl, fun h => by rw [h]⟩
    · exact ⟨fun h => by simp at h, fun h => absurd (by rw [h]) e2⟩
    · exact ⟨fun h => by simp at h, fun h => absurd (by rw [h]) e1⟩
/-! rules and a tree drawn -/
theorem drawTreeOk_ev (l : List Int) (h : ∀ x ∈ l, (Lit.int .u8 x).wf = true) : EvP (fun k => spec_DrawTreeOk k l) (fun r => Gr 10 r.1 ∧ Slim 6 10 r.2) :=
  EvP.fn (fun k => spec_DrawTreeOk_eq k _) (EvP.bind (open_ev l h) fun o ho => EvP.bind (some3_ev (m := 3000000) (ho.less (by omega))) fun s hs => EvP.now ⟨hs.1, hs.2.1⟩)
/-! the small signs of a tree -/
theorem smallE_eq (s : List UInt8) : smallE s = signSmall s := by
  match s with
  | [] => rfl
  | [c] => rfl
  | _ :: _ :: _ => rfl
theorem sanes_of (n : Nat) (ih : ∀ t : Tr, Slim 6 n t → saneE t = true) : ∀ l : List Tr, (∀ u ∈ l, Slim 6 n u) → saneEs l = true
  | [], _ => rfl
  | t :: l, h => by
    unfold saneEs
    rw [ih t (h t List.mem_cons_self), sanes_of n ih l fun u hu => h u (List.mem_cons_of_mem _ hu)]; rfl
theorem sane_of : ∀ (n : Nat) (t : Tr), Slim 6 n t → saneE t = true
  | n + 1, t, h => by
    obtain ⟨s, r, k⟩ := t
    obtain ⟨_, _, _, h4, h5⟩ := h
    have h4 : k.length ≤ 6 := h4
    unfold saneE
    rw [sanes_of n (sane_of n) k h5, decide_eq_true (by omega)]; rfl
theorem signSmall_len {s : List UInt8} (h : signSmall s = true) : s.length = 1 := by
  match s, h with
  | [c], _ => rfl
theorem yields_le (n : Nat) (ih : ∀ t : Tr, Slim 6 n t → (yieldE t).length ≤ sz n t) : ∀ l : List Tr, (∀ u ∈ l, Slim 6 n u) → (yieldEs l).length ≤ (l.map (sz n)).sum
  | [], _ => Nat.le_refl _
  | t :: l, h => by
    have h1 := ih t (h t List.mem_cons_self)
    have h2 := yields_le n ih l fun u hu => h u (List.mem_cons_of_mem _ hu)
    unfold yieldEs
    rw [List.length_append, List.map_cons, List.sum_cons]; omega
theorem yield_le : ∀ (n : Nat) (t : Tr), Slim 6 n t → (yieldE t).length ≤ sz n t
  | n + 1, t, h => by
    obtain ⟨s, r, k⟩ := t
    have h2 := yields_le n (yield_le n) k h.2.2.2.2
    unfold yieldE
    cases hs : smallE s with
    | true =>
      have := signSmall_len ((smallE_eq s) ▸ hs)
      show s.length ≤ 1 + _
      omega
    | false => show (yieldEs k).length ≤ 1 + (k.map (sz n)).sum; omega
theorem yield_ev (n : Nat) (hn : n ≤ 10) (t : Tr) (ht : Slim 6 n t) : EvP (fun k => impl_TreeYield k t.s t.r t.k) (fun r => r = yieldE t) := by
  have h1 := yield_le n t ht
  have h2 := sz_le n t ht n
  have h3 : 7 ^ n ≤ 7 ^ 10 := Nat.pow_le_pow_right (by omega) hn
  obtain ⟨s, r, k⟩ := t
  exact EvP.fn (fun k => impl_TreeYield_eq k _ _ _) (EvP.yes ⟨sane_of n _ ht, Nat.le_trans h1 (by omega)⟩ (EvP.now rfl))
/-! the parts of a tree -/
abbrev Spot := Tr × (List UInt8 × Int × Int)
def spKs (f : Tr → Int → List Spot) : List Tr → Int → List Spot
  | [], _ => []
  | u :: l, p => f u p ++ spKs f l (p + ((yieldE u).length : Nat))
def spF : Nat → Tr → Int → List Spot
  | 0, _, _ => []
  | n + 1, t, p => match signBig t.s with | false => [] | true => (t, t.s, p, p + ((yieldEs t.k).length : Nat)) :: spKs (spF n) t.k p
theorem yieldE_small {t : Tr} (h : signSmall t.s = true) : yieldE t = t.s := by
  obtain ⟨s, r, k⟩ := t
  have h : signSmall s = true := h
  unfold yieldE
  rw [smallE_eq, h]
theorem yieldE_kids {t : Tr} (h : signSmall t.s = false) : yieldE t = yieldEs t.k := by
  obtain ⟨s, r, k⟩ := t
  have h : signSmall s = false := h
  unfold yieldE
  rw [smallE_eq, h]
theorem big_not_small {s : List UInt8} (h : signBig s = true) : signSmall s = false := by
  match s, h with
  | [c], h =>
    have h : big c = true := h
    show small c = false
    unfold big at h
    unfold small
    simp only [Bool.and_eq_true, decide_eq_true_eq] at h
    simp only [Bool.and_eq_false_imp, decide_eq_true_eq, decide_eq_false_iff_not]
    omega
theorem yieldEs_append (a b : List Tr) : yieldEs (a ++ b) = yieldEs a ++ yieldEs b := by
  induction a with
  | nil => rfl
  | cons x a ih => show yieldE x ++ yieldEs (a ++ b) = yieldE x ++ yieldEs a ++ yieldEs b; rw [ih, List.append_assoc]
theorem yieldEs_take (k : List Tr) (i : Nat) (hi : i < k.length) : yieldEs (k.take (i + 1)) = yieldEs (k.take i) ++ yieldE (k.getD i t0) := by
  have e : k.take (i + 1) = k.take i ++ [k.getD i t0] := by
    rw [List.take_add_one, List.getD_eq_getElem?_getD, List.getElem?_eq_getElem hi]; rfl
  rw [e, yieldEs_append]
  show _ ++ (yieldE _ ++ []) = _
  rw [List.append_nil]
/-- Where a part stands. -/
def At (s : List UInt8) (p : Int) (x : Spot) : Prop := signBig x.1.s = true ∧ x.2.1 = x.1.s ∧ ∃ a b, s = a ++ yieldE x.1 ++ b ∧ x.2.2.1 = p + (a.length : Nat) ∧ x.2.2.2 = x.2.2.1 + ((yieldE x.1).length : Nat)
theorem At.wide {s : List UInt8} {p : Int} {x : Spot} (a b : List UInt8) (h : At s (p + (a.length : Nat)) x) : At (a ++ s ++ b) p x := by
  obtain ⟨h1, h2, c, d, h3, h4, h5⟩ := h
  refine ⟨h1, h2, a ++ c, d ++ b, ?_, ?_, h5⟩
  · rw [h3]; simp only [List.append_assoc]
  · rw [h4, List.length_append]; omega
theorem spKs_at (f : Tr → Int → List Spot) (hf : ∀ u p x, x ∈ f u p → At (yieldE u) p x) : ∀ (l : List Tr) (p : Int) (x : Spot), x ∈ spKs f l p → At (yieldEs l) p x
  | [], p, x, h => by cases h
  | u :: l, p, x, h => by
    rcases List.mem_append.1 h with h | h
    · have := (hf u p x h)
      have h2 : At (yieldE u) (p + (([] : List UInt8).length : Nat)) x := by simpa using this
      have := h2.wide [] (yieldEs l)
      exact this
    · have := (spKs_at f hf l _ x h).wide (yieldE u) []
      rw [List.append_nil] at this
      exact this
theorem spF_at : ∀ (n : Nat) (t : Tr) (p : Int) (x : Spot), x ∈ spF n t p → At (yieldE t) p x
  | n + 1, t, p, x, h => by
    unfold spF at h
    cases hb : signBig t.s with
    | false => rw [hb] at h; cases h
    | true =>
      rw [hb] at h
      have e := yieldE_kids (big_not_small hb)
      rcases List.mem_cons.1 h with rfl | h
      · exact ⟨hb, rfl, [], [], by simp, by simp, by rw [e]⟩
      · rw [e]; exact spKs_at _ (spF_at n) _ _ _ h
theorem At.cut {s : List UInt8} {x : Spot} (h : At s 0 x) : 0 ≤ x.2.2.1 ∧ x.2.2.1 ≤ x.2.2.2 ∧ x.2.2.2 ≤ (s.length : Nat) ∧ List.drop x.2.2.1.toNat (List.take x.2.2.2.toNat s) = yieldE x.1 := by
  obtain ⟨h1, h2, a, b, h3, h4, h5⟩ := h
  subst h3
  have e1 : x.2.2.1.toNat = a.length := by omega
  have e2 : x.2.2.2.toNat = (a ++ yieldE x.1).length := by rw [List.length_append]; omega
  refine ⟨by omega, by omega, ?_, ?_⟩
  · rw [List.length_append, List.length_append]; omega
  · rw [e1, e2, List.take_left, List.drop_left]
theorem At.same {s : List UInt8} {x y : Spot} (h : At s 0 x) (h' : At s 0 y) (e : x.2 = y.2) : yieldE x.1 = yieldE y.1 ∧ x.1.s = y.1.s := by
  have h1 := h.cut
  have h2 := h'.cut
  rw [e] at h1
  exact ⟨h1.2.2.2.symm.trans h2.2.2.2, by rw [← h.2.1, ← h'.2.1, e]⟩
theorem spKs_len (f : Tr → Int → List Spot) (h : Tr → Nat) : ∀ (l : List Tr) (p : Int), (∀ u ∈ l, ∀ p, (f u p).length ≤ h u) → (spKs f l p).length ≤ (l.map h).sum
  | [], p, _ => Nat.le_refl _
  | u :: l, p, hf => by
    have h1 := hf u List.mem_cons_self p
    have h2 := spKs_len f h l (p + ((yieldE u).length : Nat)) fun u hu => hf u (List.mem_cons_of_mem _ hu)
    unfold spKs
    rw [List.length_append, List.map_cons, List.sum_cons]; omega
theorem spF_len : ∀ (n : Nat) (t : Tr) (p : Int), (spF n t p).length ≤ sz n t
  | 0, _, _ => Nat.zero_le _
  | n + 1, t, p => by
    have := spKs_len (spF n) (sz n) t.k p fun u _ p => spF_len n u p
    have es : sz (n + 1) t = 1 + (t.k.map (sz n)).sum := rfl
    unfold spF
    split
    · exact Nat.zero_le _
    · rw [List.length_cons]; omega
theorem spF_slim : ∀ (n : Nat) (t : Tr) (p : Int), Slim 6 n t → ∀ x ∈ spF n t p, Slim 6 n x.1
  | n + 1, t, p, h, x, hx => by
    have ks : ∀ (l : List Tr) (p : Int), (∀ u ∈ l, Slim 6 n u) → x ∈ spKs (spF n) l p → Slim 6 n x.1 := by
      intro l
      induction l with
      | nil => intro p _ h; cases h
      | cons u l ih =>
        intro p hl hx
        rcases List.mem_append.1 hx with hx | hx
        · exact spF_slim n u p (hl u List.mem_cons_self) x hx
        · exact ih _ (fun u hu => hl u (List.mem_cons_of_mem _ hu)) hx
    unfold spF at hx
    split at hx
    · cases hx
    · rcases List.mem_cons.1 hx with rfl | hx
      · exact h
      · exact (ks t.k p h.2.2.2.2 hx).more (Nat.le_refl _) (by omega)
/-! trees and rules told back -/
theorem trEta (t : Tr) : Tr.mk t.s t.r t.k = t := by cases t; rfl
def trn : Nat → Tr → Tr
  | 0, t => t
  | n + 1, t => Tr.mk t.s t.r ((t.k.map (trn n)).reverse)
theorem trn_slim : ∀ (n : Nat) (t : Tr), Slim 6 n t → Slim 6 n (trn n t)
  | n + 1, t, h => ⟨h.1, h.2.1, h.2.2.1, by show ((t.k.map (trn n)).reverse).length ≤ 6; rw [List.length_reverse, List.length_map]; exact h.2.2.2.1, fun u hu => by
      have hu : u ∈ (t.k.map (trn n)).reverse := hu
      obtain ⟨v, hv, rfl⟩ := List.mem_map.1 (List.mem_reverse.1 hu)
      exact trn_slim n v (h.2.2.2.2 v hv)⟩
theorem trn_trn : ∀ (n : Nat) (t : Tr), Slim 6 n t → trn n (trn n t) = t
  | n + 1, t, h => by
    show Tr.mk t.s t.r ((((t.k.map (trn n)).reverse).map (trn n)).reverse) = t
    rw [List.map_reverse, List.reverse_reverse, List.map_map]
    have e : t.k.map (trn n ∘ trn n) = t.k := by
      conv => rhs; rw [← List.map_id t.k]
      exact List.map_congr_left fun u hu => trn_trn n u (h.2.2.2.2 u hu)
    rw [e, trEta]
theorem trn_sz : ∀ (n : Nat) (t : Tr), Slim 6 n t → sz n (trn n t) = sz n t
  | n + 1, t, h => by
    show 1 + ((((t.k.map (trn n)).reverse).map (sz n)).sum) = 1 + (t.k.map (sz n)).sum
    rw [List.map_reverse, List.sum_reverse, List.map_map]
    congr 2
    exact List.map_congr_left fun u hu => trn_sz n u (h.2.2.2.2 u hu)
theorem yieldEs_turn (f : Tr → Tr) : ∀ (l : List Tr), (∀ u ∈ l, yieldE (f u) = (yieldE u).reverse) → yieldEs ((l.map f).reverse) = (yieldEs l).reverse
  | [], _ => rfl
  | u :: l, h => by
    rw [List.map_cons, List.reverse_cons, yieldEs_append, yieldEs_turn f l fun v hv => h v (List.mem_cons_of_mem _ hv)]
    show _ ++ (yieldE (f u) ++ []) = (yieldE u ++ yieldEs l).reverse
    rw [List.append_nil, h u List.mem_cons_self, List.reverse_append]
theorem trn_yield : ∀ (n : Nat) (t : Tr), Slim 6 n t → yieldE (trn n t) = (yieldE t).reverse
  | n + 1, t, h => by
    cases hs : signSmall t.s with
    | true =>
      have h1 : yieldE (trn (n + 1) t) = t.s := yieldE_small (t := trn (n + 1) t) hs
      rw [h1, yieldE_small hs]
      match t.s, hs with
      | [c], _ => rfl
    | false =>
      have h1 : yieldE (trn (n + 1) t) = yieldEs ((t.k.map (trn n)).reverse) := yieldE_kids (t := trn (n + 1) t) hs
      rw [h1, yieldE_kids hs]
      exact yieldEs_turn _ _ fun u hu => trn_yield n u (h.2.2.2.2 u hu)
def turnG (g : GramT) : GramT := (g.1, g.2.map fun x => (x.1, x.2.reverse))
theorem turnG_at (g : GramT) (j : Nat) : (turnG g).2.getD j ([], []) = ((g.2.getD j ([], [])).1, (g.2.getD j ([], [])).2.reverse) := by
  show (g.2.map _).getD j _ = _
  rw [List.getD_eq_getElem?_getD, List.getD_eq_getElem?_getD, List.getElem?_map]
  cases g.2[j]? <;> rfl
theorem turnG_len (g : GramT) : (turnG g).2.length = g.2.length := List.length_map _
theorem turnG_ok {g : GramT} (h : GramOkP g) : GramOkP (turnG g) := by
  refine ⟨h.1, by rw [turnG_len]; exact h.2.1, fun j hj => ?_⟩
  rw [turnG_len] at hj
  obtain ⟨h1, h2⟩ := h.2.2 j hj
  rw [turnG_at]
  refine ⟨?_, fun hm => h2 ?_⟩
  · unfold ruleOk at h1 ⊢
    rw [List.all_reverse, List.length_reverse]; exact h1
  · have e : (turnG g).2.take j = (g.2.take j).map fun x => (x.1, x.2.reverse) := List.map_take.symm
    rw [e] at hm
    obtain ⟨y, hy, he⟩ := List.mem_map.1 hm
    have e1 : y = g.2.getD j ([], []) := by
      simp only [Prod.mk.injEq] at he
      exact Prod.ext he.1 (List.reverse_inj.1 he.2)
    rw [← e1]; exact hy
theorem cut1 (l : List UInt8) (i : Nat) (h : i < l.length) : List.drop i (List.take (i + 1) l) = [l.getD i 0] := by
  rw [List.drop_take, Nat.add_sub_cancel_left, drop_cons l i 0 h]; rfl
theorem getD_rev {α : Type} (l : List α) (i : Nat) (d : α) (h : i < l.length) : l.reverse.getD i d = l.getD (l.length - 1 - i) d := by
  rw [List.getD_eq_getElem?_getD, List.getD_eq_getElem?_getD, List.getElem?_reverse h]
theorem getD_mapT (l : List Tr) (f : Tr → Tr) (i : Nat) (h : i < l.length) : (l.map f).getD i t0 = f (l.getD i t0) := by
  rw [List.getD_eq_getElem?_getD, List.getD_eq_getElem?_getD, List.getElem?_map, List.getElem?_eq_getElem h]; rfl
theorem trn_head : ∀ (n : Nat) (t : Tr), (trn n t).s = t.s ∧ (trn n t).r = t.r
  | 0, t => ⟨rfl, rfl⟩
  | n + 1, t => ⟨rfl, rfl⟩
theorem shape_turn (g : GramT) : ∀ (d n : Nat) (t : Tr), Slim 6 n t → shape g d t → shape (turnG g) d (trn n t)
  | d + 1, n + 1, t, h, hsh => by
    rcases hsh with ⟨h1, h2, h3⟩ | ⟨h1, h2, h3, h4, h5, h6⟩
    · refine .inl ⟨h1, h2, ?_⟩
      show (t.k.map (trn n)).reverse = []
      rw [h3]; rfl
    · have hk : (trn (n + 1) t).k = (t.k.map (trn n)).reverse := rfl
      have hlen : (trn (n + 1) t).k.length = t.k.length := by rw [hk, List.length_reverse, List.length_map]
      refine .inr ⟨h1, h2, by rw [turnG_len]; exact h3, ?_, ?_, fun i hi => ?_⟩
      · show ((turnG g).2.getD t.r.toNat ([], [])).1 = t.s
        rw [turnG_at]; exact h4
      · show _ = ((turnG g).2.getD t.r.toNat ([], [])).2.length
        rw [turnG_at, hlen, List.length_reverse]; exact h5
      · rw [hlen] at hi
        have hj : t.k.length - 1 - i < t.k.length := by omega
        obtain ⟨a, b⟩ := h6 (t.k.length - 1 - i) hj
        have e : (trn (n + 1) t).k.getD i t0 = trn n (t.k.getD (t.k.length - 1 - i) t0) := by
          rw [hk, getD_rev _ _ _ (by rw [List.length_map]; exact hi), List.length_map, getD_mapT _ _ _ hj]
        rw [e, (trn_head n _).1, a]
        refine ⟨?_, shape_turn g d n _ (h.2.2.2.2 _ (getD_mem _ _ _ hj)) b⟩
        show _ = List.drop i (List.take (i + 1) ((turnG g).2.getD t.r.toNat ([], [])).2)
        rw [turnG_at, cut1 _ _ (by rw [← h5]; exact hj), cut1 _ _ (by rw [List.length_reverse, ← h5]; exact hi), getD_rev _ _ _ (by rw [← h5]; exact hi), ← h5]
theorem treeOk_turn (g : GramT) (n : Nat) (hn : n ≤ 20) (t : Tr) (ht : Slim 6 n t) (h : TreeOkP g t) : TreeOkP (turnG g) (trn n t) := by
  refine ⟨turnG_ok h.1, shape_turn g 20 n t ht h.2.1, ?_⟩
  have := h.2.2
  rw [sz_more n t ht 20 hn] at this
  rw [sz_more n _ (trn_slim n t ht) 20 hn, trn_sz n t ht]
  exact this
theorem turnI_ev : ∀ (n : Nat) (t : Tr), Slim 6 n t → EvP (fun k => impl_TreeTurn k t.s t.r t.k) (fun r => r = trn n t)
  | n + 1, t, h => by
    have h4 := h.2.2.2.1
    have loop : ∀ q : Nat, q ≤ t.k.length → EvP (fun k => impl_TreeTurn_L58 k (t.s, t.r, t.k) ([], (0 : Int), []) (t.s, t.r, ((t.k.drop q).map (trn n)).reverse) ((q : Int) - 1)) (fun r => r = trn (n + 1) t) := by
      intro q
      induction q with
      | zero => exact fun _ => EvP.fn (fun k => impl_TreeTurn_L58_eq k _ _ _ _) (EvP.decN (by omega) (EvP.now rfl))
      | succ q ih =>
        intro hq
        have hq1 : (((q + 1 : Nat) : Int) - 1) = (q : Int) := by omega
        have hi1 : (q : Int) < (t.k.length : Int) := by omega
        rw [hq1]
        refine EvP.fn (fun k => impl_TreeTurn_L58_eq k _ _ _ _) (EvP.decY (by omega) (EvP.yes (by omega) (EvP.yes hi1 ?_)))
        rw [Int.toNat_natCast]
        refine EvP.bind (turnI_ev n (t.k.getD q t0) (h.2.2.2.2 _ (getD_mem _ _ _ (by omega)))) fun x hx => EvP.yes (mG (by rw [List.length_reverse, List.length_map, List.length_drop]; show _ + 1 ≤ _; omega)) ?_
        subst hx
        rw [w64 (by omega) (by omega), trEta]
        have := ih (by omega)
        rw [drop_cons t.k q t0 (by omega), List.map_cons, List.reverse_cons] at this
        exact this
    refine EvP.fn (fun k => impl_TreeTurn_eq k _ _ _) ?_
    rw [w64 (by omega) (by omega)]
    have := loop t.k.length (Nat.le_refl _)
    rw [List.drop_length] at this
    exact this
theorem turnS_ev : ∀ (n : Nat) (t : Tr), Slim 6 n t → EvP (fun k => spec_TreeTurn k t.s t.r t.k) (fun r => r = trn n t)
  | n + 1, t, h => by
    have h4 := h.2.2.2.1
    have loop : ∀ q : Nat, q ≤ t.k.length → EvP (fun k => spec_TreeTurn_L58 k (t.s, t.r, t.k) ([], (0 : Int), []) (t.s, t.r, ((t.k.drop q).map (trn n)).reverse) ((q : Int) - 1)) (fun r => r = trn (n + 1) t) := by
      intro q
      induction q with
      | zero => exact fun _ => EvP.fn (fun k => spec_TreeTurn_L58_eq k _ _ _ _) (EvP.decN (by omega) (EvP.now rfl))
      | succ q ih =>
        intro hq
        have hq1 : (((q + 1 : Nat) : Int) - 1) = (q : Int) := by omega
        have hi1 : (q : Int) < (t.k.length : Int) := by omega
        rw [hq1]
        refine EvP.fn (fun k => spec_TreeTurn_L58_eq k _ _ _ _) (EvP.decY (by omega) (EvP.yes (by omega) (EvP.yes hi1 ?_)))
        rw [Int.toNat_natCast]
        refine EvP.bind (turnS_ev n (t.k.getD q t0) (h.2.2.2.2 _ (getD_mem _ _ _ (by omega)))) fun x hx => EvP.yes (mG (by rw [List.length_reverse, List.length_map, List.length_drop]; show _ + 1 ≤ _; omega)) ?_
        subst hx
        rw [w64 (by omega) (by omega), trEta]
        have := ih (by omega)
        rw [drop_cons t.k q t0 (by omega), List.map_cons, List.reverse_cons] at this
        exact this
    refine EvP.fn (fun k => spec_TreeTurn_eq k _ _ _) ?_
    rw [w64 (by omega) (by omega)]
    have := loop t.k.length (Nat.le_refl _)
    rw [List.drop_length] at this
    exact this
/-! rules told back: impl -/
theorem changed_loop (s : List UInt8) (l : List (List UInt8 × List UInt8)) (hl : l.length ≤ 1000) (hs : ∀ x ∈ l, x.2.length ≤ 1000000) : ∀ (q i : Nat), i + q = l.length → EvP (fun k => impl_changedRules_L58 k ([], []) (s, (l.take i).map fun x => (x.1, x.2.reverse)) l (l.length : Int) (i : Int)) (fun r => r = (s, l.map fun x => (x.1, x.2.reverse)))
  | 0, i, h => by
    refine EvP.fn (fun k => impl_changedRules_L58_eq k _ _ _ _ _) (EvP.decN (by omega) (EvP.now ?_))
    rw [List.take_of_length_le (by omega)]
  | q + 1, i, h => by
    refine EvP.fn (fun k => impl_changedRules_L58_eq k _ _ _ _ _) (EvP.decY (by omega) (EvP.yes (by omega) (EvP.yes (by omega) ?_)))
    rw [Int.toNat_natCast]
    have hx := hs _ (getD_mem l i ([], []) (by omega))
    refine EvP.bind (P := fun r => r = ((l.getD i ([], [])).1, (l.getD i ([], [])).2.reverse)) (EvP.fn (fun k => impl_GramTurn_1_eq k _ _) (EvP.bind (P := fun r => r = (l.getD i ([], [])).2.reverse) (EvP.fn (fun k => impl_backward_eq k _) (EvP.yes (by omega) (EvP.now rfl))) fun y hy => EvP.now (by rw [hy]))) fun y hy => EvP.yes (mG (by rw [List.length_map, List.length_take]; show _ + 1 ≤ _; omega)) ?_
    subst hy
    rw [w64 (by omega) (by omega)]
    have := changed_loop s l hl hs q (i + 1) (by omega)
    have e : l.take (i + 1) = l.take i ++ [l.getD i ([], [])] := by
      rw [List.take_add_one, List.getD_eq_getElem?_getD, List.getElem?_eq_getElem (show i < l.length by omega)]; rfl
    rw [e, List.map_append] at this
    exact this
theorem gramTurnI_ev (g : GramT) (hg : g.2.length ≤ 1000) (hs : ∀ x ∈ g.2, x.2.length ≤ 1000000) : EvP (fun k => impl_GramTurn k g.1 g.2) (fun r => (GramOkP g → r = turnG g) ∧ (¬ GramOkP g → r = ([], []))) := by
  refine EvP.fn (fun k => impl_GramTurn_eq k _ _) (EvP.bind (implGramOk_ev g) fun b hb => ?_)
  cases b with
  | false => exact EvP.yes rfl (EvP.now ⟨fun h => by have := hb.2 h; simp at this, fun _ => rfl⟩)
  | true =>
    refine EvP.no (by simp) (EvP.bind (P := fun r => r = turnG g) (EvP.fn (fun k => impl_changedRules_eq k _ _ _) (changed_loop g.1 g.2 hg hs g.2.length 0 (Nat.zero_add _))) fun x hx => EvP.now ⟨fun _ => hx, fun h => absurd (hb.1 rfl) h⟩)
/-! trees told back with their rules -/
theorem end_ev (g : GramT) (hg : Gr 10 g) (u : Tr) (hu : Slim 6 10 u) (t : Tr) (ht : Slim 6 10 t) (l : List UInt8) (hl : l = yieldE t) : ∀ (q i : Nat), i + q = l.length → EvP (fun k => laws_FnTreeTurn_L4090 k (t.s, t.r, t.k) g (u.s, u.r, u.k) ((trn 10 t).s, (trn 10 t).r, (trn 10 t).k) l ((l.take i).reverse) (i : Int)) (fun r => r = true)
  | 0, i, h => by
    have hx := trn_slim 10 t ht
    have hg2 := hg.2.1
    have hs : ∀ y ∈ g.2, y.2.length ≤ 1000000 := fun y hy => by have := (hg.2.2 y hy).2; omega
    refine EvP.fn (fun k => laws_FnTreeTurn_L4090_eq k _ _ _ _ _ _ _) (EvP.decN (by omega) (EvP.bind (yield_ev 10 (by omega) (trn 10 t) hx) fun y hy => ?_))
    subst hy
    rw [List.take_of_length_le (by omega), hl]
    refine EvP.decY (trn_yield 10 t ht) (EvP.bind (size_ev 10 (by omega) (trn 10 t) hx) fun a ha => EvP.bind (size_ev 10 (by omega) t ht) fun b hb => EvP.decY (by rw [ha, hb, trn_sz 10 t ht]) (EvP.bind (implTreeOk_ev g (by omega) 10 (by omega) u hu) fun c hc => ?_))
    cases c with
    | false => exact EvP.no (by simp) (EvP.now rfl)
    | true =>
      have hok := hc.1 rfl
      refine EvP.yes rfl (EvP.bind (gramTurnI_ev g (by omega) hs) fun v hv => EvP.bind (turnI_ev 10 u hu) fun w hw => ?_)
      obtain rfl := hv.1 hok.1
      subst hw
      exact EvP.bind (implTreeOk_ev (turnG g) (by rw [turnG_len]; omega) 10 (by omega) (trn 10 u) (trn_slim 10 u hu)) fun d hd => EvP.now (hd.2 (treeOk_turn g 10 (by omega) u hu hok))
  | q + 1, i, h => by
    have hb := sz_le 10 t ht 10
    have hb2 : 7 ^ 10 = 282475249 := by decide
    have hy := yield_le 10 t ht
    rw [← hl] at hy
    have e : IntKind.i64.wrap ((i : Int) + 1) = ((i + 1 : Nat) : Int) := w64 (by omega) (by omega)
    refine EvP.fn (fun k => laws_FnTreeTurn_L4090_eq k _ _ _ _ _ _ _) (EvP.decY (by omega) (EvP.yes (by omega) ?_))
    rw [e, Int.toNat_natCast, Int.toNat_natCast, cut1 l i (by omega)]
    refine EvP.yes (by omega) (EvP.yes (by omega) (EvP.yes (by rw [List.length_reverse, List.length_take]; show 1 + _ < _; omega) ?_))
    have := end_ev g hg u hu t ht l hl q (i + 1) (by omega)
    have e2 : l.take (i + 1) = l.take i ++ [l.getD i 0] := by
      rw [List.take_add_one, List.getD_eq_getElem?_getD, List.getElem?_eq_getElem (show i < l.length by omega)]; rfl
    rw [e2, List.reverse_append] at this
    exact this
theorem law_ev (l : List Int) (h : ∀ x ∈ l, (Lit.int .u8 x).wf = true) : EvP (fun k => laws_FnTreeTurn k l) (fun r => r = true) := by
  refine EvP.fn (fun k => laws_FnTreeTurn_eq k _) (EvP.dec (fun _ => EvP.now rfl) (fun _ => EvP.bind (P := fun r => Slim 6 10 r) (EvP.fn (fun k => spec_DrawTreeTurn_eq k _) (EvP.bind (P := fun r => Slim 6 10 r) (EvP.fn (fun k => spec_l3Tree_eq k _) (EvP.bind (drawTreeOk_ev l h) fun x hx => EvP.now hx.2)) fun x hx => EvP.now hx)) fun t ht => EvP.bind (drawTreeOk_ev l h) fun x hx => ?_))
  obtain ⟨hg, hu⟩ := hx
  have hx := trn_slim 10 t ht
  refine EvP.bind (turnI_ev 10 t ht) fun a ha => EvP.bind (turnS_ev 10 t ht) fun b hb => ?_
  subst ha hb
  refine EvP.bind (sameI_ev 10 _ hx (trn 10 t)) fun c hc => ?_
  obtain rfl := hc.2 rfl
  refine EvP.yes rfl (EvP.bind (turnI_ev 10 _ hx) fun d hd => ?_)
  subst hd
  refine EvP.bind (sameI_ev 10 _ (trn_slim 10 _ hx) t) fun c hc => ?_
  obtain rfl := hc.2 (trn_trn 10 t ht)
  refine EvP.no (by simp) (EvP.bind (yield_ev 10 (by omega) t ht) fun s hs => ?_)
  exact end_ev x.1 hg x.2 hu t ht s hs s.length 0 (Nat.zero_add _)
end Go.Proofs.YtkofhmmfhmipgaaDoor.Pure
