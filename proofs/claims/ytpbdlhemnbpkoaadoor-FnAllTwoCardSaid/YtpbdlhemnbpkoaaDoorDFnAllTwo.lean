/- What the reader of draws answers: they answer, and within which bounds. -/
import Derived.Test.YtpbdlhemnbpkoaaDoorEv
import Derived.Test.YtpbdlhemnbpkoaaDoorEqFnAllTwo
namespace Go.Proofs.YtpbdlhemnbpkoaaDoor.Pure
open Go Go.Proofs.YtpbdlhemnbpkoaaDoor.Eng Go.Proofs.YtpbdlhemnbpkoaaDoor.Eq Go.Proofs.YtpbdlhemnbpkoaaDoor.Ev
set_option autoImplicit false
set_option linter.unusedVariables false
set_option linter.unusedSimpArgs false
set_option linter.unnecessarySimpa false

def Bytes (s : List Int) : Prop := (∀ x ∈ s, 0 ≤ x ∧ x ≤ 255) ∧ s.length ≤ 2000
/-- A reader, m draws ahead. -/
def Rd (m : Nat) (b : List Int) (p : Int) : Prop := Bytes b ∧ 0 ≤ p ∧ p + m ≤ 100000000
theorem Rd.less {m n : Nat} {b : List Int} {p : Int} (h : Rd m b p) (hn : n ≤ m) : Rd n b p := ⟨h.1, h.2.1, by have := h.2.2; omega⟩

theorem open_ev (l : List Int) (h : ∀ x ∈ l, (Lit.int .u8 x).wf = true) : EvP (fun k => spec_l17Open k l) (fun r => Rd 100000000 r.1 r.2) := by
  refine EvP.fn (fun k => spec_l17Open_eq k l) (EvP.dec (fun h1 => ?_) (fun h1 => ?_))
  · refine EvP.yes (by omega) (EvP.yes (by omega) (EvP.yes (by omega) (EvP.now ⟨⟨fun x hx => wf_byte (h x ?_), ?_⟩, by simp, by simp⟩)))
    · exact List.mem_of_mem_take (List.mem_of_mem_drop hx)
    · simp; omega
  · exact EvP.now ⟨⟨fun x hx => wf_byte (h x hx), by show l.length ≤ 2000; omega⟩, by simp, by simp⟩

theorem pick_ev {m : Nat} {b : List Int} {p : Int} (hr : Rd (m + 1) b p) {n : Int} (hn : 1 ≤ n) (hn2 : n ≤ 1000000000) :
    EvP (fun k => spec_l17Rd_pick k b p n) (fun r => 0 ≤ r.1 ∧ r.1 < n ∧ Rd m r.2.1 r.2.2) := by
  obtain ⟨⟨hb, hl⟩, hp, hp2⟩ := hr
  have e1 : IntKind.i64.wrap (p + 1) = p + 1 := w64 (by omega) (by omega)
  have e2 : IntKind.i64.wrap (p + 1 - 1) = p := by rw [w64 (by omega) (by omega)]; omega
  have fin : ∀ x : Int, 0 ≤ x ∧ x < n → (0 ≤ (x, b, p + 1).1 ∧ (x, b, p + 1).1 < n ∧ Rd m (x, b, p + 1).2.1 (x, b, p + 1).2.2) := fun x h => ⟨h.1, h.2, ⟨hb, hl⟩, by show 0 ≤ p + 1; omega, by show p + 1 + m ≤ 100000000; omega⟩
  refine EvP.fn (fun k => spec_l17Rd_pick_eq k b p n) ?_
  rw [e1, e2]
  refine EvP.decF (fun _ => ?_) (fun h => absurd h (by omega))
  refine EvP.dec (fun h0 => EvP.now (fin 0 (by omega))) (fun h0 => ?_)
  refine EvP.dec (fun h1 => ?_) (fun h1 => ?_)
  · refine EvP.yes hp (EvP.yes h1 (EvP.no (by omega) (EvP.now (fin _ ?_))))
    have hx := getD_byte hb p.toNat
    rw [w64 (by omega) (by omega)]
    exact tmod_range _ n hx.1 hn
  · have hL : (1 : Int) ≤ b.length := by omega
    have t1 := tmod_range p b.length hp hL
    have e3 : IntKind.i64.wrap (p * 7) = p * 7 := w64 (by omega) (by omega)
    have e4 : IntKind.i64.wrap (p * 7 + 3) = p * 7 + 3 := w64 (by omega) (by omega)
    have t2 := tmod_range (p * 7 + 3) b.length (by omega) hL
    rw [e3, e4]
    refine EvP.no (by omega) (EvP.yes t1.1 (EvP.yes t1.2 (EvP.no (by omega) (EvP.yes t2.1 (EvP.yes t2.2 (EvP.no (by omega) (EvP.no (by omega) (EvP.now (fin _ ?_)))))))))
    generalize hA : b.getD (p.tmod b.length).toNat 0 = A
    generalize hB : b.getD ((p * 7 + 3).tmod b.length).toNat 0 = B'
    have hA' := getD_byte hb (p.tmod b.length).toNat
    have hB' := getD_byte hb ((p * 7 + 3).tmod b.length).toNat
    rw [hA] at hA'
    rw [hB] at hB'
    have hq : 0 ≤ Int.tdiv p b.length ∧ Int.tdiv p b.length ≤ p := ⟨Int.tdiv_nonneg hp (by omega), by
      rw [Int.tdiv_eq_ediv_of_nonneg hp]; exact Int.ediv_le_self _ hp⟩
    generalize Int.tdiv p b.length = Q at hq
    rw [w64 (x := A) (by omega) (by omega), w64 (x := B') (by omega) (by omega), w64 (x := A * 131) (by omega) (by omega), w64 (x := B' * 1117) (by omega) (by omega), w64 (x := p * 29) (by omega) (by omega), w64 (x := Q) (by omega) (by omega), w64 (x := Q * 53) (by omega) (by omega), w64 (x := A * 131 + B' * 1117) (by omega) (by omega), w64 (x := A * 131 + B' * 1117 + p * 29) (by omega) (by omega), w64 (x := A * 131 + B' * 1117 + p * 29 + Q * 53) (by omega) (by omega)]
    generalize hX : A * 131 + B' * 1117 + p * 29 + Q * 53 = X
    have hX1 : 0 ≤ X ∧ X ≤ 100000000000 := by omega
    have hd : 0 ≤ Int.tdiv X 64 ∧ Int.tdiv X 64 ≤ X := ⟨Int.tdiv_nonneg hX1.1 (by omega), by
      rw [Int.tdiv_eq_ediv_of_nonneg hX1.1]; exact Int.ediv_le_self _ hX1.1⟩
    generalize Int.tdiv X 64 = Y at hd
    rw [w64 (x := Y) (by omega) (by omega)]
    exact tmod_range (bxor X Y) n (xor_nonneg X Y (by omega) (by omega) (by omega) (by omega)) hn
theorem num_ev {m : Nat} {b : List Int} {p : Int} (hr : Rd (m + 1) b p) (l : List Int) (hl : 1 ≤ l.length) (hl2 : l.length ≤ 1000) :
    EvP (fun k => spec_l17Rd_num k b p l) (fun r => r.1 ∈ l ∧ Rd m r.2.1 r.2.2) := by
  refine EvP.fn (fun k => spec_l17Rd_num_eq k b p l) (EvP.bind (pick_ev hr (n := l.length) (by omega) (by omega)) fun a ha => ?_)
  exact EvP.yes ha.1 (EvP.yes ha.2.1 (EvP.now ⟨getD_mem _ _ _ (by omega), ha.2.2⟩))
theorem of_ev {m : Nat} {b : List Int} {p : Int} (hr : Rd (m + 1) b p) (l : List (List UInt8)) (hl : 1 ≤ l.length) (hl2 : l.length ≤ 1000) :
    EvP (fun k => spec_l17Rd_of k b p l) (fun r => r.1 ∈ l ∧ Rd m r.2.1 r.2.2) := by
  refine EvP.fn (fun k => spec_l17Rd_of_eq k b p l) (EvP.bind (pick_ev hr (n := l.length) (by omega) (by omega)) fun a ha => ?_)
  exact EvP.yes ha.1 (EvP.yes ha.2.1 (EvP.now ⟨getD_mem _ _ _ (by omega), ha.2.2⟩))
/-! signs -/
def small (c : UInt8) : Bool := decide (97 ≤ c.toNat) && decide (c.toNat ≤ 100)
theorem l1Small_ev (c : UInt8) : EvP (fun k => spec_l1Small k ((c.toNat : Nat) : Int)) (fun r => r = small c) := by
  refine EvP.fn (fun k => spec_l1Small_eq k _) (EvP.dec (fun h => EvP.now ?_) (fun h => EvP.now ?_))
  · have h1 : 97 ≤ c.toNat := by omega
    have e : decide ((c.toNat : Int) ≤ 100) = decide (c.toNat ≤ 100) := by congr 1; exact propext ⟨fun h => by omega, fun h => by omega⟩
    rw [e]; simp [small, h1]
  · have h1 : ¬ 97 ≤ c.toNat := by omega
    simp [small, h1]
theorem drop_cons {α : Type} (l : List α) (i : Nat) (d : α) (h : i < l.length) : l.drop i = l.getD i d :: l.drop (i + 1) := by
  rw [List.drop_eq_getElem_cons h, List.getD_eq_getElem?_getD, List.getElem?_eq_getElem h]; rfl
/-! grammars drawn -/
abbrev GramT := List UInt8 × List (List UInt8 × List UInt8)
/-- At most n rules, all short. -/
def Gr (n : Nat) (g : GramT) : Prop := g.1.length ≤ 5 ∧ g.2.length ≤ n ∧ ∀ x ∈ g.2, x.1.length ≤ 5 ∧ x.2.length ≤ 5
theorem mG {n : Nat} (h : n ≤ 1000000) : n < maxLenE := by unfold maxLenE; omega
theorem Gr.more {n m : Nat} {g : GramT} (h : Gr n g) (hm : n ≤ m) : Gr m g := ⟨h.1, by have := h.2.1; omega, h.2.2⟩
theorem Gr.add {n : Nat} {g : GramT} (h : Gr n g) (x : List UInt8 × List UInt8) (hx : x.1.length ≤ 5 ∧ x.2.length ≤ 5) : Gr (n + 1) (g.1, g.2 ++ [x]) :=
  ⟨h.1, by have := h.2.1; simp; omega, fun y hy => by
    rcases List.mem_append.1 hy with hy | hy
    · exact h.2.2 y hy
    · rw [List.mem_singleton.1 hy]; exact hx⟩
theorem Gr.set {n : Nat} {g : GramT} (h : Gr n g) (i : Nat) (x : List UInt8 × List UInt8) (hx : x.1.length ≤ 5 ∧ x.2.length ≤ 5) : Gr n (g.1, g.2.set i x) :=
  ⟨h.1, by have := h.2.1; simp; omega, fun y hy => by
    rcases List.mem_or_eq_of_mem_set hy with hy | hy
    · exact h.2.2 y hy
    · rw [hy]; exact hx⟩
theorem Gr.at {n : Nat} {g : GramT} (h : Gr n g) (i : Nat) (hi : i < g.2.length) : (g.2.getD i ([], [])).1.length ≤ 5 ∧ (g.2.getD i ([], [])).2.length ≤ 5 := h.2.2 _ (getD_mem _ _ _ hi)
theorem signed_loop : ∀ (n m : Nat) {b : List Int} {p : Int} (t : List UInt8) (i N : Int), i + n = N → 0 ≤ i → N ≤ 1000 → Rd (m + n) b p → t.length ≤ i → EvP (fun k => spec_l1Signed_L58 k (b, p) N t i) (fun r => r.1.length ≤ N ∧ Rd m r.2.1 r.2.2)
  | 0, m, b, p, t, i, N, h, h0, hN, hr, ht => by
    refine EvP.fn (fun k => spec_l1Signed_L58_eq k _ _ _ _) (EvP.decN (by omega) (EvP.now ⟨by show (t.length : Int) ≤ N; omega, hr⟩))
  | n + 1, m, b, p, t, i, N, h, h0, hN, hr, ht => by
    refine EvP.fn (fun k => spec_l1Signed_L58_eq k _ _ _ _) (EvP.decY (by omega) ?_)
    refine EvP.bind (of_ev (m := m + n) (hr.less (by omega)) _ (by simp) (by simp)) fun a ha => ?_
    have hl : a.1.length = 1 := by
      have := ha.1
      simp only [List.mem_cons, List.not_mem_nil, or_false] at this
      rcases this with h | h | h | h | h | h | h | h | h <;> rw [h] <;> rfl
    refine EvP.yes (by omega) ?_
    rw [w64 (by omega) (by omega)]
    exact signed_loop n m _ (i + 1) N (by omega) (by omega) hN ha.2 (by simp [hl]; omega)
theorem signed_ev {m n : Nat} {b : List Int} {p : Int} {N : Int} (h0 : 0 ≤ N) (hN : N ≤ n) (hn : n ≤ 1000) (hr : Rd (m + n) b p) : EvP (fun k => spec_l1Signed k b p N) (fun r => r.1.length ≤ N ∧ Rd m r.2.1 r.2.2) := by
  obtain ⟨N', rfl⟩ := Int.eq_ofNat_of_zero_le h0
  exact EvP.fn (fun k => spec_l1Signed_eq k _ _ _) (signed_loop N' m [] 0 _ (by omega) (by omega) (by omega) (hr.less (by omega)) (by simp))
theorem place_loop (l : List (List UInt8 × List UInt8)) (hl : l.length ≤ 1000) (x : List UInt8 × List UInt8) : ∀ (n i : Nat), i + n = l.length → EvP (fun k => spec_l1Place_L26 k l x (i : Int)) (fun r => r < 0 ↔ x ∉ l.drop i)
  | 0, i, h => by
    refine EvP.fn (fun k => spec_l1Place_L26_eq k _ _ _) (EvP.decN (by omega) (EvP.now ?_))
    rw [List.drop_eq_nil_of_le (by omega)]
    exact ⟨fun _ h => absurd h List.not_mem_nil, fun _ => by decide⟩
  | n + 1, i, h => by
    refine EvP.fn (fun k => spec_l1Place_L26_eq k _ _ _) (EvP.decY (by omega) (EvP.yes (by omega) (EvP.yes (by omega) ?_)))
    rw [Int.toNat_natCast, drop_cons l i ([], []) (by omega)]
    refine EvP.ite (fun h' => EvP.now ?_) (fun h' => ?_)
    · simp only [Bool.and_eq_true, decide_eq_true_eq] at h'
      have e : x = l.getD i ([], []) := Prod.ext h'.1.symm h'.2.symm
      exact ⟨fun h => absurd h (by omega), fun h => absurd (e ▸ List.mem_cons_self) h⟩
    · have e : ¬ x = l.getD i ([], []) := fun e => h' (by rw [← e]; simp)
      rw [w64 (by omega) (by omega)]
      refine (place_loop l hl x n (i + 1) (by omega)).mono fun r hr => ?_
      rw [hr, List.mem_cons, not_or]
      exact ⟨fun h => ⟨e, h⟩, fun h => h.2⟩
theorem place_ev (l : List (List UInt8 × List UInt8)) (hl : l.length ≤ 1000) (x y : List UInt8) : EvP (fun k => spec_l1Place k l x y) (fun r => r < 0 ↔ (x, y) ∉ l) := by
  refine EvP.fn (fun k => spec_l1Place_eq k _ _ _) ((place_loop l hl (x, y) l.length 0 (by omega)).mono fun r hr => ?_)
  rw [hr, List.drop_zero]
theorem base_ev (n : Int) : EvP (fun k => spec_l1Base k n) (fun r => Gr 6 r) := by
  refine EvP.fn (fun k => spec_l1Base_eq k _) ?_
  refine EvP.dec (fun _ => EvP.now ?_) (fun _ => EvP.dec (fun _ => EvP.now ?_) (fun _ => EvP.dec (fun _ => EvP.now ?_) (fun _ => EvP.dec (fun _ => EvP.now ?_) (fun _ => EvP.dec (fun _ => EvP.now ?_) (fun _ => EvP.dec (fun _ => EvP.now ?_) (fun _ => EvP.dec (fun _ => EvP.now ?_) (fun _ => EvP.now ?_)))))))
  all_goals (unfold Gr; decide)
theorem gram_loop : ∀ (n m : Nat) {b : List Int} {p : Int} (x g : GramT) (q : Nat), Gr q g → q + n ≤ 100 → Rd (m + 5 * n) b p →
    EvP (fun k => spec_l1Gram_L122 k (b, p) x g (n : Int)) (fun r => Gr (q + n) r.1 ∧ Rd m r.2.1 r.2.2)
  | 0, m, b, p, x, g, q, hg, hq, hr => by
    refine EvP.fn (fun k => spec_l1Gram_L122_eq k _ _ _ _) (EvP.decN (by omega) (EvP.now ⟨hg, hr⟩))
  | n + 1, m, b, p, x, g, q, hg, hq, hr => by
    have hg2 := hg.2.1
    refine EvP.fn (fun k => spec_l1Gram_L122_eq k _ _ _ _) (EvP.decY (by omega) ?_)
    refine EvP.bind (of_ev (m := m + 5 * n + 4) (hr.less (by omega)) _ (by simp) (by simp)) fun a ha => ?_
    have hl : a.1.length = 1 := by
      have := ha.1
      simp only [List.mem_cons, List.not_mem_nil, or_false] at this
      rcases this with h | h | h | h <;> rw [h] <;> rfl
    refine EvP.bind (num_ev (m := m + 5 * n + 3) (ha.2.less (by omega)) _ (by simp) (by simp)) fun c hc => ?_
    have hcb : 0 ≤ c.1 ∧ c.1 ≤ 3 := by
      have := hc.1
      simp only [List.mem_cons, List.not_mem_nil, or_false] at this
      omega
    refine EvP.bind (signed_ev (m := m + 5 * n) (n := 3) hcb.1 (by omega) (by omega) (hc.2.less (by omega))) fun d hd => ?_
    refine EvP.bind (place_ev g.2 (by omega) a.1 d.1) fun e he => ?_
    have e1 : IntKind.i64.wrap (((n + 1 : Nat) : Int) - 1) = (n : Int) := by rw [w64 (by omega) (by have := hr.2.2; omega)]; omega
    rw [e1]
    refine EvP.dec (fun _ => EvP.yes (mG (by simp; omega)) ?_) (fun _ => ?_)
    · exact (gram_loop n m _ _ (q + 1) (hg.add (a.1, d.1) ⟨by show a.1.length ≤ 5; omega, by show d.1.length ≤ 5; omega⟩) (by omega) hd.2).mono fun r hr => ⟨hr.1.more (by omega), hr.2⟩
    · exact (gram_loop n m _ _ q hg (by omega) hd.2).mono fun r hr => ⟨hr.1.more (by omega), hr.2⟩
theorem gram_ev {m : Nat} {b : List Int} {p : Int} (hr : Rd (m + 30) b p) : EvP (fun k => spec_l1Gram k b p) (fun r => Gr 6 r.1 ∧ Rd m r.2.1 r.2.2) := by
  refine EvP.fn (fun k => spec_l1Gram_eq k _ _) (EvP.bind (pick_ev (m := m + 29) hr (by omega) (by omega)) fun a ha => EvP.dec (fun _ => ?_) (fun _ => ?_))
  · refine EvP.bind (num_ev (m := m + 28) ha.2.2 _ (by simp) (by simp)) fun c hc => EvP.bind (base_ev c.1) fun d hd => EvP.now ⟨hd, hc.2.less (by omega)⟩
  · refine EvP.bind (num_ev (m := m + 28) ha.2.2 _ (by simp) (by simp)) fun c hc => ?_
    have hcb : 0 ≤ c.1 ∧ c.1 ≤ 5 := by
      have := hc.1
      simp only [List.mem_cons, List.not_mem_nil, or_false] at this
      omega
    obtain ⟨N, hN⟩ := Int.eq_ofNat_of_zero_le hcb.1
    rw [hN]
    exact (gram_loop N m _ _ 0 ⟨by decide, by decide, by simp⟩ (by omega) (hc.2.less (by omega))).mono fun r hr => ⟨hr.1.more (by omega), hr.2⟩
theorem full_loop : ∀ (n m : Nat) {b : List Int} {p : Int} (x g : GramT) (q : Nat), Gr q g → 9 ≤ g.2.length + n → 9 ≤ q → Rd (m + 3 * n) b p →
    EvP (fun k => spec_l1Bent_L259582 k (b, p) x g) (fun r => Gr q r.1 ∧ Rd m r.2.1 r.2.2)
  | 0, m, b, p, x, g, q, hg, h, hq, hr => by
    refine EvP.fn (fun k => spec_l1Bent_L259582_eq k _ _ _) (EvP.decN (by omega) (EvP.now ⟨hg, hr⟩))
  | n + 1, m, b, p, x, g, q, hg, h, hq, hr => by
    refine EvP.fn (fun k => spec_l1Bent_L259582_eq k _ _ _) (EvP.dec (fun h8 => ?_) (fun _ => EvP.now ⟨hg, hr.less (by omega)⟩))
    refine EvP.bind (signed_ev (m := m + 3 * n) (n := 3) (by omega) (by omega) (by omega) (hr.less (by omega))) fun d hd => ?_
    refine EvP.yes (mG (by simp; omega)) ?_
    have hg8 : Gr 8 g := ⟨hg.1, by omega, hg.2.2⟩
    exact full_loop n m _ _ q ((hg8.add (_, d.1) ⟨by show 1 ≤ 5; decide, by show d.1.length ≤ 5; have := hd.1; omega⟩).more hq) (by simp; omega) hq hd.2
theorem lens {l : List (List UInt8)} {x : List UInt8} (h : x ∈ l) (hl : (l.all fun x => decide (x.length ≤ 5)) = true) : x.length ≤ 5 := of_decide_eq_true (List.all_eq_true.1 hl x h)
theorem bentG_ev {m : Nat} {b : List Int} {p : Int} (hr : Rd (m + 40) b p) (n : Nat) (hn : n ≤ 100) (h8 : 8 ≤ n) (g : GramT) (hg : Gr n g) : EvP (fun k => spec_l1Bent k b p g.1 g.2) (fun r => Gr (n + 1) r.1 ∧ Rd m r.2.1 r.2.2) := by
  have hg2 := hg.2.1
  refine EvP.fn (fun k => spec_l1Bent_eq k _ _ _ _) (EvP.yes (mG (by omega)) (EvP.bind (pick_ev (m := m + 39) hr (by omega) (by omega)) fun a ha => ?_))
  refine EvP.decF (fun _ => EvP.dec (fun _ => EvP.now ⟨hg.more (by omega), ha.2.2.less (by omega)⟩) (fun h0 => ?_)) (fun _ => EvP.now ⟨hg.more (by omega), ha.2.2.less (by omega)⟩)
  refine EvP.bind (pick_ev (m := m + 38) ha.2.2 (by omega) (by omega)) fun c hc => EvP.bind (pick_ev (m := m + 37) hc.2.2 (by omega) (by omega)) fun d hd => ?_
  have hat := hg.at c.1.toNat (by omega)
  refine EvP.dec (fun _ => ?_) (fun _ => EvP.dec (fun _ => ?_) (fun _ => EvP.dec (fun _ => ?_) (fun _ => EvP.dec (fun _ => ?_) (fun _ => ?_))))
  · exact EvP.bind (of_ev (m := m + 36) hd.2.2 _ (by simp) (by simp)) fun e he => EvP.now ⟨⟨lens he.1 (by decide), by show g.2.length ≤ n + 1; omega, hg.2.2⟩, he.2.less (by omega)⟩
  · refine EvP.bind (of_ev (m := m + 36) hd.2.2 _ (by simp) (by simp)) fun e he => ?_
    have hl := lens he.1 (by decide)
    exact EvP.yes hc.1 (EvP.yes hc.2.1 (EvP.now ⟨(hg.set _ (e.1, _) ⟨hl, hat.2⟩).more (by omega), he.2.less (by omega)⟩))
  · refine EvP.bind (of_ev (m := m + 36) hd.2.2 _ (by simp) (by simp)) fun e he => ?_
    have hl := lens he.1 (by decide)
    exact EvP.yes hc.1 (EvP.yes hc.2.1 (EvP.now ⟨(hg.set _ (_, e.1) ⟨hat.1, hl⟩).more (by omega), he.2.less (by omega)⟩))
  · exact EvP.yes hc.1 (EvP.yes hc.2.1 (EvP.yes (mG (by simp; omega)) (EvP.now ⟨hg.add _ hat, hd.2.2.less (by omega)⟩)))
  · exact (full_loop 9 m _ g (n + 1) (hg.more (by omega)) (by omega) (by omega) (hd.2.2.less (by omega)))
def signSmall (s : List UInt8) : Bool := match s with | [c] => small c | _ => false
theorem signSmall_ev (s : List UInt8) : EvP (fun k => spec_SignSmall k s) (fun r => r = signSmall s) := by
  refine EvP.fn (fun k => spec_SignSmall_eq k s) (EvP.dec (fun h => EvP.yes (by omega) (EvP.yes (by omega) (EvP.bind (l1Small_ev _) fun b hb => EvP.now ?_))) (fun h => EvP.now ?_))
  · match s, h with
    | [c], _ => exact hb
  · match s, h with
    | [], _ => rfl
    | [c], h => exact absurd rfl h
    | _ :: _ :: _, _ => rfl
theorem for_loop (s : List UInt8) (g : GramT) (hg : g.2.length ≤ 1000) : ∀ (n i : Nat) (l : List Int), i + n = g.2.length → l.length ≤ i → (∀ j ∈ l, 0 ≤ j ∧ j < g.2.length) →
    EvP (fun k => spec_l1For_L58 k s g l (i : Int)) (fun r => r.length ≤ g.2.length ∧ ∀ j ∈ r, 0 ≤ j ∧ j < g.2.length)
  | 0, i, l, h, hl, hj => by
    refine EvP.fn (fun k => spec_l1For_L58_eq k _ _ _ _) (EvP.decN (by omega) (EvP.now ⟨by omega, hj⟩))
  | n + 1, i, l, h, hl, hj => by
    refine EvP.fn (fun k => spec_l1For_L58_eq k _ _ _ _) (EvP.decY (by omega) (EvP.yes (by omega) (EvP.yes (by omega) ?_)))
    rw [w64 (by omega) (by omega)]
    refine EvP.dec (fun _ => EvP.yes (mG (by simp; omega)) ?_) (fun _ => ?_)
    · refine for_loop s _ hg n (i + 1) _ (by show i + 1 + n = g.2.length; omega) (by simp; omega) fun j hj' => ?_
      rcases List.mem_append.1 hj' with h' | h'
      · exact hj j h'
      · rw [List.mem_singleton.1 h']; constructor
        · omega
        · show (i : Int) < (g.2.length : Int); omega
    · exact for_loop s _ hg n (i + 1) _ (by show i + 1 + n = g.2.length; omega) (by omega) hj
theorem for_ev (g : GramT) (hg : g.2.length ≤ 1000) (s : List UInt8) : EvP (fun k => spec_l1For k g.1 g.2 s) (fun r => r.length ≤ g.2.length ∧ ∀ j ∈ r, 0 ≤ j ∧ j < g.2.length) :=
  EvP.fn (fun k => spec_l1For_eq k _ _ _) (for_loop s g hg g.2.length 0 [] (by omega) (by simp) (fun j h => absurd h List.not_mem_nil))
/-! trees drawn -/
/-- No deeper than n, few kids, short signs. -/
def Slim (w : Nat) : Nat → Tr → Prop
  | 0, _ => False
  | n + 1, t => t.s.length ≤ 5 ∧ -2 ≤ t.r ∧ t.r ≤ 1000 ∧ t.k.length ≤ w ∧ ∀ u ∈ t.k, Slim w n u
theorem Slim.more {w w' : Nat} (hw : w ≤ w') : ∀ {n n' : Nat} {t : Tr}, Slim w n t → n ≤ n' → Slim w' n' t
  | n + 1, n' + 1, t, h, hn => ⟨h.1, h.2.1, h.2.2.1, by have := h.2.2.2.1; omega, fun u hu => (h.2.2.2.2 u hu).more hw (by omega)⟩
theorem Slim.leaf {w n : Nat} {s : List UInt8} (hs : s.length ≤ 5) : Slim w (n + 1) (Tr.mk s (-1) []) :=
  ⟨hs, by show (-2 : Int) ≤ -1; decide, by show (-1 : Int) ≤ 1000; decide, Nat.zero_le _, fun u hu => absurd hu List.not_mem_nil⟩
def Rn : Nat → Nat | 0 => 0 | n + 1 => 1 + 5 * Rn n
theorem anyAt_loop (d : Nat) (hd : d ≤ 1000) (g : GramT) (hg : Gr 100 g)
    (ih : ∀ {m : Nat} {b : List Int} {p : Int}, Rd (m + Rn d) b p → ∀ (s : List UInt8), s.length ≤ 5 → ∀ deep : Int, deep ≤ d → EvP (fun k => spec_l3Any k b p g.1 g.2 s deep) (fun r => Slim 5 (d + 1) (Tr.mk r.1.1 r.1.2.1 r.1.2.2) ∧ Rd m r.2.1 r.2.2))
    (j : Int) (h0 : 0 ≤ j) (hj : j < g.2.length) (deep : Int) (h1 : 1 ≤ deep) (hdeep : deep ≤ d + 1) :
    ∀ (n i m : Nat) {b : List Int} {p : Int} (z t : List UInt8 × Int × List Tr), i + n = (g.2.getD j.toNat ([], [])).2.length → t.2.2.length = i → t.1.length ≤ 5 → -2 ≤ t.2.1 → t.2.1 ≤ 1000 → (∀ u ∈ t.2.2, Slim 5 (d + 1) u) → Rd (m + n * Rn d) b p →
    EvP (fun k => spec_l3Any_L2042 k (b, p) deep g z j t (i : Int)) (fun r => Slim 5 (d + 2) (Tr.mk r.1.1 r.1.2.1 r.1.2.2) ∧ Rd m r.2.1 r.2.2)
  | 0, i, m, b, p, z, t, h, ht, hs, hr1, hr2, hk, hr => by
    have hat := (hg.at j.toNat (by omega)).2
    refine EvP.fn (fun k => spec_l3Any_L2042_eq k _ _ _ _ _ _ _) (EvP.yes h0 (EvP.yes hj (EvP.decN (by omega) (EvP.now ⟨⟨hs, hr1, hr2, ?_, hk⟩, hr.less (by omega)⟩))))
    show t.2.2.length ≤ 5; omega
  | n + 1, i, m, b, p, z, t, h, ht, hs, hr1, hr2, hk, hr => by
    have hat := (hg.at j.toNat (by omega)).2
    have e1 : IntKind.i64.wrap ((i : Int) + 1) = ((i + 1 : Nat) : Int) := w64 (by omega) (by omega)
    have e2 : IntKind.i64.wrap (deep - 1) = deep - 1 := w64 (by omega) (by omega)
    refine EvP.fn (fun k => spec_l3Any_L2042_eq k _ _ _ _ _ _ _) (EvP.yes h0 (EvP.yes hj (EvP.decY (by omega) (EvP.yes h0 (EvP.yes hj ?_)))))
    rw [e1, e2]
    refine EvP.yes (by omega) (EvP.yes (by omega) (EvP.yes (by omega) ?_))
    have hm : m + (n + 1) * Rn d = m + n * Rn d + Rn d := by rw [Nat.succ_mul]; omega
    refine EvP.bind (ih (m := m + n * Rn d) (hm ▸ hr) _ (by rw [List.length_drop, List.length_take]; omega) (deep - 1) (by omega)) fun a ha => EvP.yes (mG (by simp; omega)) ?_
    refine anyAt_loop d hd g hg ih j h0 hj deep h1 hdeep n (i + 1) m _ _ (by omega) (by simp; omega) hs hr1 hr2 (fun u hu => ?_) ha.2
    rcases List.mem_append.1 hu with hu | hu
    · exact hk u hu
    · rw [List.mem_singleton.1 hu]; exact ha.1
theorem least_loop (d : Nat) (g : GramT) (hg : Gr 100 g) (l : List Int) (hl : ∀ j ∈ l, 0 ≤ j ∧ j < g.2.length) (hl2 : l.length ≤ 1000) (Q : ((List UInt8 × Int × List Tr) × List Int × Int) → Prop) (s : List UInt8) (deep : Int) (z : List UInt8 × Int × List Tr) (b : List Int) (p : Int)
    (nx : ∀ j : Int, 0 ≤ j → j < g.2.length → EvP (fun k => spec_l3Any_L127 k (b, p) s deep g z j) Q) : ∀ (n i : Nat) (j : Int), i + n = l.length → 0 ≤ j → j < g.2.length →
    EvP (fun k => spec_l3Any_L2026 k (b, p) s deep g z l j (i : Int)) Q
  | 0, i, j, h, h0, hj => EvP.fn (fun k => spec_l3Any_L2026_eq k _ _ _ _ _ _ _ _) (EvP.decN (by omega) (nx j h0 hj))
  | n + 1, i, j, h, h0, hj => by
    have hi := hl _ (getD_mem l i 0 (by omega))
    refine EvP.fn (fun k => spec_l3Any_L2026_eq k _ _ _ _ _ _ _ _) (EvP.decY (by omega) (EvP.yes (by omega) (EvP.yes (by omega) ?_)))
    rw [Int.toNat_natCast, w64 (by omega) (by omega)]
    refine EvP.yes hi.1 (EvP.yes hi.2 (EvP.yes h0 (EvP.yes hj (EvP.dec (fun _ => EvP.yes (by omega) (EvP.yes (by omega) ?_)) (fun _ => ?_)))))
    · exact least_loop d g hg l hl hl2 Q s deep z b p nx n (i + 1) _ (by omega) hi.1 hi.2
    · exact least_loop d g hg l hl hl2 Q s deep z b p nx n (i + 1) _ (by omega) h0 hj
theorem any_ev (g : GramT) (hg : Gr 100 g) : ∀ (d : Nat), d ≤ 1000 → ∀ {m : Nat} {b : List Int} {p : Int}, Rd (m + Rn d) b p → ∀ (s : List UInt8), s.length ≤ 5 → ∀ deep : Int, deep ≤ d →
    EvP (fun k => spec_l3Any k b p g.1 g.2 s deep) (fun r => Slim 5 (d + 1) (Tr.mk r.1.1 r.1.2.1 r.1.2.2) ∧ Rd m r.2.1 r.2.2) := by
  have hg2 := hg.2.1
  intro d
  induction d with
  | zero =>
    intro _ m b p hr s hs deep hd
    have z : Slim 5 1 (Tr.mk s (-1) []) := Slim.leaf hs
    refine EvP.fn (fun k => spec_l3Any_eq k _ _ _ _ _ _) (EvP.bind (signSmall_ev s) fun x hx => EvP.ite (fun _ => EvP.now ⟨z, hr.less (by omega)⟩) (fun _ => EvP.bind (for_ev g (by omega) s) fun l hl => ?_))
    exact EvP.decF (fun _ => EvP.decY (by omega) (EvP.now ⟨z, hr.less (by omega)⟩)) (fun _ => EvP.now ⟨z, hr.less (by omega)⟩)
  | succ d ih =>
    intro hd m b p hr s hs deep hdeep
    have z : Slim 5 (d + 2) (Tr.mk s (-1) []) := Slim.leaf hs
    refine EvP.fn (fun k => spec_l3Any_eq k _ _ _ _ _ _) (EvP.bind (signSmall_ev s) fun x hx => EvP.ite (fun _ => EvP.now ⟨z, hr.less (by omega)⟩) (fun _ => EvP.bind (for_ev g (by omega) s) fun l hl => ?_))
    refine EvP.decF (fun hl0 => EvP.dec (fun _ => EvP.now ⟨z, hr.less (by omega)⟩) (fun hdp => ?_)) (fun _ => EvP.now ⟨z, hr.less (by omega)⟩)
    have hR : Rn (d + 1) = 1 + 5 * Rn d := rfl
    refine EvP.bind (pick_ev (m := m + 5 * Rn d) (hr.less (by omega)) (by omega) (by omega)) fun c hc => EvP.yes hc.1 (EvP.yes hc.2.1 ?_)
    have hj := hl.2 _ (getD_mem l c.1.toNat 0 (by omega))
    have nx : ∀ j : Int, 0 ≤ j → j < g.2.length → EvP (fun k => spec_l3Any_L127 k (c.2.1, c.2.2) s deep g ([], 0, []) j) (fun r => Slim 5 (d + 2) (Tr.mk r.1.1 r.1.2.1 r.1.2.2) ∧ Rd m r.2.1 r.2.2) := fun j h0 hj => by
      have hat := (hg.at j.toNat (by omega)).2
      have hm : (g.2.getD j.toNat ([], [])).2.length * Rn d ≤ 5 * Rn d := Nat.mul_le_mul_right _ hat
      refine EvP.fn (fun k => spec_l3Any_L127_eq k _ _ _ _ _ _) ?_
      exact anyAt_loop d (by omega) g hg (fun hr => ih (by omega) hr) j h0 hj deep (by omega) (by omega) (g.2.getD j.toNat ([], [])).2.length 0 m _ (s, j, []) (by omega) rfl hs (by show -2 ≤ j; omega) (by show j ≤ 1000; omega) (fun u hu => absurd hu List.not_mem_nil) (hc.2.2.less (by omega))
    exact EvP.dec (fun _ => least_loop d g hg l hl.2 (by omega) _ s deep _ _ _ nx l.length 0 _ (by omega) hj.1 hj.2) (fun _ => nx _ hj.1 hj.2)
/-! strings.Trim -/
theorem dropWhile_all {α : Type} (p : α → Bool) : ∀ l : List α, l.dropWhile p = [] ↔ l.all p = true
  | [] => by simp
  | x :: l => by
    rw [List.dropWhile_cons]
    cases h : p x with
    | true => simp only [if_true, List.all_cons, h, Bool.true_and]; exact dropWhile_all p l
    | false => simp [h]
theorem trim_nil (s c : List UInt8) : (trimE s c = []) ↔ s.all c.contains = true := by
  unfold trimE
  rw [List.reverse_eq_nil_iff, dropWhile_all, List.all_reverse, ← dropWhile_all]
  constructor
  · intro h
    have h1 := (dropWhile_all _ _).1 h
    cases hd : s.dropWhile c.contains with
    | nil => exact (dropWhile_all _ _).1 hd
    | cons x l =>
      exfalso
      have h2 : (x :: l).dropWhile c.contains = [] := hd ▸ h
      have h3 : c.contains x = false := by
        have := List.head?_dropWhile_not c.contains s
        rw [hd] at this; simpa using this
      rw [List.dropWhile_cons, h3] at h2
      simp at h2
  · intro h
    rw [(dropWhile_all _ _).2 h]; rfl
/-! grammars that are right -/
def big (c : UInt8) : Bool := decide (65 ≤ c.toNat) && decide (c.toNat ≤ 69)
def signBig (s : List UInt8) : Bool := match s with | [c] => big c | _ => false
def sign (c : UInt8) : Bool := big c || small c
def ruleOk (x : List UInt8 × List UInt8) : Bool := signBig x.1 && (x.2.all sign && decide (x.2.length ≤ 4))
def GramOkP (g : GramT) : Prop := signBig g.1 = true ∧ g.2.length ≤ 8 ∧ ∀ j, j < g.2.length → ruleOk (g.2.getD j ([], [])) = true ∧ g.2.getD j ([], []) ∉ g.2.take j
theorem l1Big_ev (c : UInt8) : EvP (fun k => spec_l1Big k ((c.toNat : Nat) : Int)) (fun r => r = big c) := by
  refine EvP.fn (fun k => spec_l1Big_eq k _) (EvP.dec (fun h => EvP.now ?_) (fun h => EvP.now ?_))
  · have h1 : 65 ≤ c.toNat := by omega
    have e : decide ((c.toNat : Int) ≤ 69) = decide (c.toNat ≤ 69) := by congr 1; exact propext ⟨fun h => by omega, fun h => by omega⟩
    rw [e]; simp [big, h1]
  · have h1 : ¬ 65 ≤ c.toNat := by omega
    simp [big, h1]
theorem specSignBig_ev (s : List UInt8) : EvP (fun k => spec_SignBig k s) (fun r => r = signBig s) := by
  refine EvP.fn (fun k => spec_SignBig_eq k s) (EvP.dec (fun h => EvP.yes (by omega) (EvP.yes (by omega) (EvP.bind (l1Big_ev _) fun b hb => EvP.now ?_))) (fun h => EvP.now ?_))
  · match s, h with
    | [c], _ => exact hb
  · match s, h with
    | [], _ => rfl
    | [c], h => exact absurd rfl h
    | _ :: _ :: _, _ => rfl
theorem isIn_ev (s : List UInt8) (lo hi : Nat) : EvP (fun k => impl_isIn k s lo hi) (fun r => r = (match s with | [c] => decide (lo ≤ c.toNat) && decide (c.toNat ≤ hi) | _ => false)) := by
  refine EvP.fn (fun k => impl_isIn_eq k s _ _) (EvP.dec (fun h => EvP.yes (by omega) (EvP.yes (by omega) (EvP.dec (fun h1 => EvP.yes (by omega) (EvP.yes (by omega) (EvP.now ?_))) (fun h1 => EvP.now ?_)))) (fun h => EvP.now ?_))
  · match s, h with
    | [c], _ =>
      have h1 : lo ≤ c.toNat := by have : (lo : Int) ≤ (c.toNat : Int) := h1; omega
      show decide ((c.toNat : Int) ≤ (hi : Int)) = _
      have e : decide ((c.toNat : Int) ≤ (hi : Int)) = decide (c.toNat ≤ hi) := by congr 1; exact propext ⟨fun h => by omega, fun h => by omega⟩
      rw [e]; simp [h1]
  · match s, h with
    | [c], _ =>
      have h1 : ¬ lo ≤ c.toNat := by have : ¬ (lo : Int) ≤ (c.toNat : Int) := h1; omega
      simp [h1]
  · match s, h with
    | [], _ => rfl
    | [c], h => exact absurd rfl h
    | _ :: _ :: _, _ => rfl
theorem implSignBig_ev (s : List UInt8) : EvP (fun k => impl_SignBig k s) (fun r => r = signBig s) :=
  EvP.fn (fun k => impl_SignBig_eq k s) (EvP.bind (isIn_ev s 65 69) fun r hr => EvP.now (by rw [hr]; rfl))
theorem implSignSmall_ev (s : List UInt8) : EvP (fun k => impl_SignSmall k s) (fun r => r = signSmall s) :=
  EvP.fn (fun k => impl_SignSmall_eq k s) (EvP.bind (isIn_ev s 97 100) fun r hr => EvP.now (by rw [hr]; rfl))
def signs : List UInt8 := [65, 66, 67, 68, 69, 97, 98, 99, 100]
set_option maxRecDepth 100000 in
theorem sign_contains (c : UInt8) : signs.contains c = sign c := by
  have key : ∀ n : Nat, n < 256 → signs.contains (UInt8.ofNat n) = sign (UInt8.ofNat n) := by decide +kernel
  have := key c.toNat (UInt8.toNat_lt c)
  rwa [UInt8.ofNat_toNat] at this
theorem areSigns_ev (s : List UInt8) : EvP (fun k => impl_areSigns k s 4) (fun r => r = (s.all sign && decide (s.length ≤ 4))) := by
  refine EvP.fn (fun k => impl_areSigns_eq k _ _) (EvP.dec (fun h => ?_) (fun h => EvP.now ?_))
  · refine EvP.bind (P := fun r => r = trimE s signs) (EvP.fn (fun k => strings_Trim_eq k _ _) (EvP.yes ⟨by omega, by decide, by decide⟩ (EvP.now rfl))) fun r hr => EvP.now ?_
    have e : (signs.contains : UInt8 → Bool) = sign := funext sign_contains
    have h4 : s.length ≤ 4 := by omega
    have := trim_nil s signs
    rw [e] at this
    rw [hr]
    show decide (trimE s signs = []) = _
    simp only [h4, decide_true, Bool.and_true]
    cases hs : s.all sign with
    | true => exact decide_eq_true (this.2 hs)
    | false => exact decide_eq_false (fun h => by rw [this.1 h] at hs; cases hs)
  · have h4 : ¬ s.length ≤ 4 := by omega
    simp [h4]
theorem l1Right_loop (s : List UInt8) (hs : s.length ≤ 1000000) : ∀ (n i : Nat), i + n = s.length → EvP (fun k => spec_l1Right_L26 k s 4 (i : Int)) (fun r => r = ((s.drop i).all sign && decide (s.length ≤ 4)))
  | 0, i, h => by
    refine EvP.fn (fun k => spec_l1Right_L26_eq k _ _ _) (EvP.decN (by omega) (EvP.now ?_))
    have e : decide ((s.length : Int) ≤ 4) = decide (s.length ≤ 4) := by congr 1; exact propext ⟨fun h => by omega, fun h => by omega⟩
    rw [e, List.drop_eq_nil_of_le (by omega)]; simp
  | n + 1, i, h => by
    refine EvP.fn (fun k => spec_l1Right_L26_eq k _ _ _) (EvP.decY (by omega) (EvP.yes (by omega) (EvP.yes (by omega) ?_)))
    rw [Int.toNat_natCast, w64 (by omega) (by omega), drop_cons s i 0 (by omega)]
    have next := l1Right_loop s hs n (i + 1) (by omega)
    refine EvP.bind (l1Big_ev _) fun b hb => ?_
    subst hb
    cases hc : big (s.getD i 0) with
    | true =>
      refine EvP.no (by simp) (next.mono fun r hr => ?_)
      have : sign (s.getD i 0) = true := by simp only [sign, hc, Bool.true_or]
      rw [hr, List.all_cons, this, Bool.true_and]
    | false =>
      refine EvP.yes rfl (EvP.yes (by omega) (EvP.yes (by omega) (EvP.bind (l1Small_ev _) fun b hb => ?_)))
      subst hb
      have e : sign (s.getD i 0) = small (s.getD i 0) := by simp only [sign, hc, Bool.false_or]
      cases hd : small (s.getD i 0) with
      | true => exact EvP.no (by simp) (next.mono fun r hr => by rw [hr, List.all_cons, e, hd, Bool.true_and])
      | false => exact EvP.yes rfl (EvP.now (by rw [List.all_cons, e, hd]; rfl))
theorem l1Right_ev (s : List UInt8) (hs : s.length ≤ 1000000) : EvP (fun k => spec_l1Right k s 4) (fun r => r = (s.all sign && decide (s.length ≤ 4))) :=
  EvP.fn (fun k => spec_l1Right_eq k _ _) ((l1Right_loop s hs s.length 0 (by omega)).mono fun r hr => by rw [hr, List.drop_zero])
theorem indexRule_loop (l : List (List UInt8 × List UInt8)) (hl : l.length ≤ 1000) (x : List UInt8 × List UInt8) : ∀ (n i : Nat), i + n = l.length → EvP (fun k => slices_Index_Simpl_Rule_impl_Rule_L26 k l x (l.length : Int) (i : Int)) (fun r => r < 0 ↔ x ∉ l.drop i)
  | 0, i, h => by
    refine EvP.fn (fun k => slices_Index_Simpl_Rule_impl_Rule_L26_eq k _ _ _ _) (EvP.decN (by omega) (EvP.now ?_))
    rw [List.drop_eq_nil_of_le (by omega)]
    exact ⟨fun _ h => absurd h List.not_mem_nil, fun _ => by decide⟩
  | n + 1, i, h => by
    refine EvP.fn (fun k => slices_Index_Simpl_Rule_impl_Rule_L26_eq k _ _ _ _) (EvP.decY (by omega) (EvP.yes (by omega) (EvP.yes (by omega) ?_)))
    rw [Int.toNat_natCast, drop_cons l i ([], []) (by omega)]
    refine EvP.ite (fun h' => EvP.now ?_) (fun h' => ?_)
    · simp only [Bool.and_eq_true, decide_eq_true_eq] at h'
      have e : x = l.getD i ([], []) := Prod.ext h'.1 h'.2
      exact ⟨fun h => absurd h (by omega), fun h => absurd (e ▸ List.mem_cons_self) h⟩
    · have e : ¬ x = l.getD i ([], []) := fun e => h' (by rw [← e]; simp)
      rw [w64 (by omega) (by omega)]
      refine (indexRule_loop l hl x n (i + 1) (by omega)).mono fun r hr => ?_
      rw [hr, List.mem_cons, not_or]
      exact ⟨fun h => ⟨e, h⟩, fun h => h.2⟩
theorem hasRule_ev (l : List (List UInt8 × List UInt8)) (hl : l.length ≤ 1000) (x y : List UInt8) : EvP (fun k => slices_Contains_Simpl_Rule_impl_Rule k l x y) (fun r => r = true ↔ (x, y) ∈ l) := by
  refine EvP.fn (fun k => slices_Contains_Simpl_Rule_impl_Rule_eq k _ _ _) (EvP.bind (P := fun r => r < 0 ↔ (x, y) ∉ l) (EvP.fn (fun k => slices_Index_Simpl_Rule_impl_Rule_eq k _ _ _) ((indexRule_loop l hl (x, y) l.length 0 (by omega)).mono fun r hr => by rw [hr, List.drop_zero])) fun r hr => EvP.now ?_)
  rw [decide_eq_true_iff]
  by_cases h : (x, y) ∈ l
  · exact ⟨fun _ => h, fun _ => by have := mt hr.1 (fun h' => h' h); omega⟩
  · exact ⟨fun h0 => absurd (hr.2 h) (by omega), fun h' => absurd h' h⟩
/-- From a place on. -/
def okFrom (l : List (List UInt8 × List UInt8)) (i : Nat) : Prop := ∀ j, i ≤ j → j < l.length → ruleOk (l.getD j ([], [])) = true ∧ l.getD j ([], []) ∉ l.take j
theorem okFrom_step {l : List (List UInt8 × List UInt8)} {i : Nat} (hi : i < l.length) : okFrom l i ↔ ((ruleOk (l.getD i ([], [])) = true ∧ l.getD i ([], []) ∉ l.take i) ∧ okFrom l (i + 1)) := by
  constructor
  · intro h; exact ⟨h i (Nat.le_refl _) hi, fun j hj hl => h j (by omega) hl⟩
  · rintro ⟨h1, h2⟩ j hj hl
    rcases Nat.eq_or_lt_of_le hj with e | e
    · rw [← e]; exact h1
    · exact h2 j e hl
theorem implGramOk_loop (g : GramT) (hg : g.2.length ≤ 8) : ∀ (n i : Nat), i + n = g.2.length → EvP (fun k => impl_GramOk_L58 k g g.2 (g.2.length : Int) (i : Int)) (fun r => r = true ↔ okFrom g.2 i)
  | 0, i, h => by
    refine EvP.fn (fun k => impl_GramOk_L58_eq k _ _ _ _) (EvP.decN (by omega) (EvP.now ?_))
    exact ⟨fun _ j h1 h2 => by omega, fun _ => rfl⟩
  | n + 1, i, h => by
    refine EvP.fn (fun k => impl_GramOk_L58_eq k _ _ _ _) (EvP.decY (by omega) (EvP.yes (by omega) (EvP.yes (by omega) ?_)))
    rw [Int.toNat_natCast, okFrom_step (by omega)]
    refine EvP.bind (implSignBig_ev _) fun b hb => ?_
    subst hb
    cases h1 : signBig (g.2.getD i ([], [])).1 with
    | false => exact EvP.no (by simp) (EvP.now ⟨fun h => by simp at h, fun h => by have := h.1.1; simp only [ruleOk, h1, Bool.false_and] at this; cases this⟩)
    | true =>
      refine EvP.yes rfl (EvP.bind (areSigns_ev _) fun b hb => ?_)
      subst hb
      cases h2 : ((g.2.getD i ([], [])).2.all sign && decide ((g.2.getD i ([], [])).2.length ≤ 4)) with
      | false => exact EvP.no (by simp) (EvP.now ⟨fun h => by simp at h, fun h => by have := h.1.1; simp only [ruleOk, h1, h2] at this; simp at this⟩)
      | true =>
        have hok : ruleOk (g.2.getD i ([], [])) = true := by simp only [ruleOk, h1, h2, Bool.and_self]
        refine EvP.yes rfl (EvP.yes (by omega) (EvP.yes (by omega) (EvP.yes (by show (i : Int) ≤ (g.2.length : Int); omega) ?_)))
        refine EvP.bind (hasRule_ev _ (by simp; omega) _ _) fun b hb => ?_
        have e : List.drop (Int.toNat 0) (List.take i g.2) = g.2.take i := rfl
        rw [e] at hb
        cases b with
        | true => exact EvP.yes rfl (EvP.now ⟨fun h => by simp at h, fun h => absurd (hb.1 rfl) h.1.2⟩)
        | false =>
          refine EvP.no (by simp) ?_
          rw [w64 (by omega) (by omega)]
          refine (implGramOk_loop g hg n (i + 1) (by omega)).mono fun r hr => ?_
          rw [hr]
          exact ⟨fun h => ⟨⟨hok, fun h' => by have := hb.2 h'; simp at this⟩, h⟩, fun h => h.2⟩
theorem implGramOk_ev (g : GramT) : EvP (fun k => impl_GramOk k g.1 g.2) (fun r => r = true ↔ GramOkP g) := by
  refine EvP.fn (fun k => impl_GramOk_eq k _ _) (EvP.bind (implSignBig_ev _) fun b hb => ?_)
  subst hb
  cases h1 : signBig g.1 with
  | false => exact EvP.no (by simp) (EvP.now ⟨fun h => by simp at h, fun h => by rw [h.1] at h1; cases h1⟩)
  | true =>
    refine EvP.yes rfl (EvP.dec (fun h8 => EvP.now ⟨fun h => by simp at h, fun h => by have := h.2.1; omega⟩) (fun h8 => ?_))
    refine (implGramOk_loop g (by omega) g.2.length 0 (by omega)).mono fun r hr => ?_
    rw [hr]
    exact ⟨fun h => ⟨h1, by omega, fun j hj => h j (Nat.zero_le _) hj⟩, fun h j _ hj => h.2.2 j hj⟩
theorem specGramOk_loop (g : GramT) (hg : g.2.length ≤ 8) (hs : ∀ x ∈ g.2, x.2.length ≤ 1000000) : ∀ (n i : Nat), i + n = g.2.length → EvP (fun k => spec_GramOk_L58 k g (i : Int)) (fun r => r = true ↔ okFrom g.2 i)
  | 0, i, h => by
    refine EvP.fn (fun k => spec_GramOk_L58_eq k _ _) (EvP.decN (by omega) (EvP.now ?_))
    exact ⟨fun _ j h1 h2 => by omega, fun _ => rfl⟩
  | n + 1, i, h => by
    refine EvP.fn (fun k => spec_GramOk_L58_eq k _ _) (EvP.decY (by omega) (EvP.yes (by omega) (EvP.yes (by omega) ?_)))
    rw [Int.toNat_natCast, okFrom_step (by omega)]
    refine EvP.bind (specSignBig_ev _) fun b hb => ?_
    subst hb
    cases h1 : signBig (g.2.getD i ([], [])).1 with
    | false => exact EvP.no (by simp) (EvP.now ⟨fun h => by simp at h, fun h => by have := h.1.1; simp only [ruleOk, h1, Bool.false_and] at this; cases this⟩)
    | true =>
      refine EvP.yes rfl (EvP.yes (by omega) (EvP.yes (by omega) (EvP.bind (l1Right_ev _ (hs _ (getD_mem _ _ _ (by omega)))) fun b hb => ?_)))
      subst hb
      cases h2 : ((g.2.getD i ([], [])).2.all sign && decide ((g.2.getD i ([], [])).2.length ≤ 4)) with
      | false => exact EvP.no (by simp) (EvP.now ⟨fun h => by simp at h, fun h => by have := h.1.1; simp only [ruleOk, h1, h2] at this; simp at this⟩)
      | true =>
        have hok : ruleOk (g.2.getD i ([], [])) = true := by simp only [ruleOk, h1, h2, Bool.and_self]
        refine EvP.yes rfl (EvP.yes (by omega) (EvP.yes (by omega) (EvP.yes (by show (i : Int) ≤ (g.2.length : Int); omega) (EvP.yes (by omega) (EvP.yes (by omega) ?_)))))
        refine EvP.bind (place_ev _ (by simp; omega) _ _) fun b hb => ?_
        have e : List.drop (Int.toNat 0) (List.take i g.2) = g.2.take i := rfl
        rw [e] at hb
        refine EvP.dec (fun h0 => EvP.now ⟨fun h => by simp at h, fun h => absurd (hb.2 h.1.2) (by omega)⟩) (fun h0 => ?_)
        rw [w64 (by omega) (by omega)]
        refine (specGramOk_loop g hg hs n (i + 1) (by omega)).mono fun r hr => ?_
        rw [hr]
        exact ⟨fun h => ⟨⟨hok, hb.1 (by omega)⟩, h⟩, fun h => h.2⟩
theorem specGramOk_ev (g : GramT) (hs : ∀ x ∈ g.2, x.2.length ≤ 1000000) : EvP (fun k => spec_GramOk k g.1 g.2) (fun r => r = true ↔ GramOkP g) := by
  refine EvP.fn (fun k => spec_GramOk_eq k _ _) (EvP.bind (specSignBig_ev _) fun b hb => ?_)
  subst hb
  cases h1 : signBig g.1 with
  | false => exact EvP.no (by simp) (EvP.now ⟨fun h => by simp at h, fun h => by rw [h.1] at h1; cases h1⟩)
  | true =>
    refine EvP.yes rfl (EvP.dec (fun h8 => EvP.now ⟨fun h => by simp at h, fun h => by have := h.2.1; omega⟩) (fun h8 => ?_))
    refine (specGramOk_loop g (by omega) hs g.2.length 0 (by omega)).mono fun r hr => ?_
    rw [hr]
    exact ⟨fun h => ⟨h1, by omega, fun j hj => h j (Nat.zero_le _) hj⟩, fun h j _ hj => h.2.2 j hj⟩
/-! trees that are right -/
abbrev t0 : Tr := Tr.mk [] 0 []
/-- A tree by rules, so deep at most. -/
def shape (g : GramT) : Nat → Tr → Prop
  | 0, _ => False
  | d + 1, t => (signSmall t.s = true ∧ t.r = -1 ∧ t.k = []) ∨ (signSmall t.s = false ∧ 0 ≤ t.r ∧ t.r < g.2.length ∧ (g.2.getD t.r.toNat ([], [])).1 = t.s ∧ t.k.length = (g.2.getD t.r.toNat ([], [])).2.length ∧
      ∀ i, i < t.k.length → (t.k.getD i t0).s = List.drop i (List.take (i + 1) (g.2.getD t.r.toNat ([], [])).2) ∧ shape g d (t.k.getD i t0))
theorem shape.more {g : GramT} : ∀ {d : Nat} {t : Tr}, shape g d t → shape g (d + 1) t
  | d + 1, t, h => by
    rcases h with h | ⟨h1, h2, h3, h4, h5, h6⟩
    · exact .inl h
    · exact .inr ⟨h1, h2, h3, h4, h5, fun i hi => ⟨(h6 i hi).1, (h6 i hi).2.more⟩⟩
/-- How many signs, so deep. -/
def sz : Nat → Tr → Nat
  | 0, _ => 1
  | d + 1, t => 1 + (t.k.map (sz d)).sum
theorem sz_pos : ∀ (d : Nat) (t : Tr), 1 ≤ sz d t
  | 0, _ => Nat.le_refl _
  | d + 1, t => by unfold sz; omega
theorem sum_le (l : List Tr) (f : Tr → Nat) (c : Nat) (h : ∀ u ∈ l, f u ≤ c) : (l.map f).sum ≤ l.length * c := by
  induction l with
  | nil => simp
  | cons a l ih =>
    have h1 := h a List.mem_cons_self
    have h2 := ih fun u hu => h u (List.mem_cons_of_mem _ hu)
    simp only [List.map_cons, List.sum_cons, List.length_cons, Nat.succ_mul]
    omega
theorem mem_sum (l : List Tr) (f : Tr → Nat) (u : Tr) (h : u ∈ l) : f u ≤ (l.map f).sum := by
  induction l with
  | nil => cases h
  | cons a l ih =>
    simp only [List.map_cons, List.sum_cons]
    rcases List.mem_cons.1 h with rfl | h
    · omega
    · have := ih h; omega
theorem sz_le : ∀ (n : Nat) (t : Tr), Slim 6 n t → ∀ d, sz d t ≤ 7 ^ n
  | n + 1, t, h, 0 => Nat.one_le_pow _ _ (by omega)
  | n + 1, t, h, d + 1 => by
    obtain ⟨_, _, _, h4, h5⟩ := h
    have h6 := sum_le t.k (sz d) (7 ^ n) (fun u hu => sz_le n u (h5 u hu) d)
    have h7 : 1 ≤ 7 ^ n := Nat.one_le_pow _ _ (by omega)
    have h8 : t.k.length * 7 ^ n ≤ 6 * 7 ^ n := Nat.mul_le_mul_right _ h4
    unfold sz
    rw [Nat.pow_succ]; omega
theorem sz_more {w : Nat} : ∀ (n : Nat) (t : Tr), Slim w n t → ∀ d, n ≤ d → sz d t = sz n t
  | n + 1, t, h, d + 1, hd => by
    unfold sz
    congr 2
    exact List.map_congr_left fun u hu => sz_more n u (h.2.2.2.2 u hu) d (by omega)
theorem drop_sum (l : List Tr) (f : Tr → Nat) (i : Nat) (hi : i < l.length) : ((l.drop i).map f).sum = f (l.getD i t0) + ((l.drop (i + 1)).map f).sum := by
  rw [drop_cons l i t0 hi, List.map_cons, List.sum_cons]
theorem drop_sum_le (l : List Tr) (f : Tr → Nat) : ∀ (n i : Nat), i + n = l.length → ((l.drop i).map f).sum ≤ (l.map f).sum
  | n, 0, _ => by rw [List.drop_zero]; exact Nat.le_refl _
  | n, i + 1, h => by
    have := drop_sum_le l f (n + 1) i (by omega)
    rw [drop_sum l f i (by omega)] at this
    omega
/-- A tree that is right. -/
def TreeOkP (g : GramT) (t : Tr) : Prop := GramOkP g ∧ shape g 20 t ∧ sz 20 t ≤ 60
/-! the small signs of a tree -/
theorem smallE_eq (s : List UInt8) : smallE s = signSmall s := by
  match s with
  | [] => rfl
  | [c] => rfl
  | _ :: _ :: _ => rfl
theorem sanes_of (n : Nat) (ih : ∀ t : Tr, Slim 6 n t → saneE t = true) : ∀ l : List Tr, (∀ u ∈ l, Slim 6 n u) → saneEs l = true
  | [], _ => rfl
  | t :: l, h => by
    unfold saneEs
    rw [ih t (h t List.mem_cons_self), sanes_of n ih l fun u hu => h u (List.mem_cons_of_mem _ hu)]; rfl
theorem sane_of : ∀ (n : Nat) (t : Tr), Slim 6 n t → saneE t = true
  | n + 1, t, h => by
    obtain ⟨s, r, k⟩ := t
    obtain ⟨_, _, _, h4, h5⟩ := h
    have h4 : k.length ≤ 6 := h4
    unfold saneE
    rw [sanes_of n (sane_of n) k h5, decide_eq_true (by omega)]; rfl
theorem signSmall_len {s : List UInt8} (h : signSmall s = true) : s.length = 1 := by
  match s, h with
  | [c], _ => rfl
theorem yields_le (n : Nat) (ih : ∀ t : Tr, Slim 6 n t → (yieldE t).length ≤ sz n t) : ∀ l : List Tr, (∀ u ∈ l, Slim 6 n u) → (yieldEs l).length ≤ (l.map (sz n)).sum
  | [], _ => Nat.le_refl _
  | t :: l, h => by
    have h1 := ih t (h t List.mem_cons_self)
    have h2 := yields_le n ih l fun u hu => h u (List.mem_cons_of_mem _ hu)
    unfold yieldEs
    rw [List.length_append, List.map_cons, List.sum_cons]; omega
theorem yield_le : ∀ (n : Nat) (t : Tr), Slim 6 n t → (yieldE t).length ≤ sz n t
  | n + 1, t, h => by
    obtain ⟨s, r, k⟩ := t
    have h2 := yields_le n (yield_le n) k h.2.2.2.2
    unfold yieldE
    cases hs : smallE s with
    | true =>
      have := signSmall_len ((smallE_eq s) ▸ hs)
      show s.length ≤ 1 + _
      omega
    | false => show (yieldEs k).length ≤ 1 + (k.map (sz n)).sum; omega
/-! the parts of a tree -/
abbrev Spot := Tr × (List UInt8 × Int × Int)
def spKs (f : Tr → Int → List Spot) : List Tr → Int → List Spot
  | [], _ => []
  | u :: l, p => f u p ++ spKs f l (p + ((yieldE u).length : Nat))
def spF : Nat → Tr → Int → List Spot
  | 0, _, _ => []
  | n + 1, t, p => match signBig t.s with | false => [] | true => (t, t.s, p, p + ((yieldEs t.k).length : Nat)) :: spKs (spF n) t.k p
theorem yieldE_small {t : Tr} (h : signSmall t.s = true) : yieldE t = t.s := by
  obtain ⟨s, r, k⟩ := t
  have h : signSmall s = true := h
  unfold yieldE
  rw [smallE_eq, h]
theorem yieldE_kids {t : Tr} (h : signSmall t.s = false) : yieldE t = yieldEs t.k := by
  obtain ⟨s, r, k⟩ := t
  have h : signSmall s = false := h
  unfold yieldE
  rw [smallE_eq, h]
theorem big_not_small {s : List UInt8} (h : signBig s = true) : signSmall s = false := by
  match s, h with
  | [c], h =>
    have h : big c = true := h
    show small c = false
    unfold big at h
    unfold small
    simp only [Bool.and_eq_true, decide_eq_true_eq] at h
    simp only [Bool.and_eq_false_imp, decide_eq_true_eq, decide_eq_false_iff_not]
    omega
theorem yieldEs_append (a b : List Tr) : yieldEs (a ++ b) = yieldEs a ++ yieldEs b := by
  induction a with
  | nil => rfl
  | cons x a ih => show yieldE x ++ yieldEs (a ++ b) = yieldE x ++ yieldEs a ++ yieldEs b; rw [ih, List.append_assoc]
theorem yieldEs_take (k : List Tr) (i : Nat) (hi : i < k.length) : yieldEs (k.take (i + 1)) = yieldEs (k.take i) ++ yieldE (k.getD i t0) := by
  have e : k.take (i + 1) = k.take i ++ [k.getD i t0] := by
    rw [List.take_add_one, List.getD_eq_getElem?_getD, List.getElem?_eq_getElem hi]; rfl
  rw [e, yieldEs_append]
  show _ ++ (yieldE _ ++ []) = _
  rw [List.append_nil]
/-- Where a part stands. -/
def At (s : List UInt8) (p : Int) (x : Spot) : Prop := signBig x.1.s = true ∧ x.2.1 = x.1.s ∧ ∃ a b, s = a ++ yieldE x.1 ++ b ∧ x.2.2.1 = p + (a.length : Nat) ∧ x.2.2.2 = x.2.2.1 + ((yieldE x.1).length : Nat)
theorem At.wide {s : List UInt8} {p : Int} {x : Spot} (a b : List UInt8) (h : At s (p + (a.length : Nat)) x) : At (a ++ s ++ b) p x := by
  obtain ⟨h1, h2, c, d, h3, h4, h5⟩ := h
  refine ⟨h1, h2, a ++ c, d ++ b, ?_, ?_, h5⟩
  · rw [h3]; simp only [List.append_assoc]
  · rw [h4, List.length_append]; omega
theorem spKs_at (f : Tr → Int → List Spot) (hf : ∀ u p x, x ∈ f u p → At (yieldE u) p x) : ∀ (l : List Tr) (p : Int) (x : Spot), x ∈ spKs f l p → At (yieldEs l) p x
  | [], p, x, h => by cases h
  | u :: l, p, x, h => by
    rcases List.mem_append.1 h with h | h
    · have := (hf u p x h)
      have h2 : At (yieldE u) (p + (([] : List UInt8).length : Nat)) x := by simpa using this
      have := h2.wide [] (yieldEs l)
      exact this
    · have := (spKs_at f hf l _ x h).wide (yieldE u) []
      rw [List.append_nil] at this
      exact this
theorem spF_at : ∀ (n : Nat) (t : Tr) (p : Int) (x : Spot), x ∈ spF n t p → At (yieldE t) p x
  | n + 1, t, p, x, h => by
    unfold spF at h
    cases hb : signBig t.s with
    | false => rw [hb] at h; cases h
    | true =>
      rw [hb] at h
      have e := yieldE_kids (big_not_small hb)
      rcases List.mem_cons.1 h with rfl | h
      · exact ⟨hb, rfl, [], [], by simp, by simp, by rw [e]⟩
      · rw [e]; exact spKs_at _ (spF_at n) _ _ _ h
theorem At.cut {s : List UInt8} {x : Spot} (h : At s 0 x) : 0 ≤ x.2.2.1 ∧ x.2.2.1 ≤ x.2.2.2 ∧ x.2.2.2 ≤ (s.length : Nat) ∧ List.drop x.2.2.1.toNat (List.take x.2.2.2.toNat s) = yieldE x.1 := by
  obtain ⟨h1, h2, a, b, h3, h4, h5⟩ := h
  subst h3
  have e1 : x.2.2.1.toNat = a.length := by omega
  have e2 : x.2.2.2.toNat = (a ++ yieldE x.1).length := by rw [List.length_append]; omega
  refine ⟨by omega, by omega, ?_, ?_⟩
  · rw [List.length_append, List.length_append]; omega
  · rw [e1, e2, List.take_left, List.drop_left]
theorem At.same {s : List UInt8} {x y : Spot} (h : At s 0 x) (h' : At s 0 y) (e : x.2 = y.2) : yieldE x.1 = yieldE y.1 ∧ x.1.s = y.1.s := by
  have h1 := h.cut
  have h2 := h'.cut
  rw [e] at h1
  exact ⟨h1.2.2.2.symm.trans h2.2.2.2, by rw [← h.2.1, ← h'.2.1, e]⟩
theorem spKs_len (f : Tr → Int → List Spot) (h : Tr → Nat) : ∀ (l : List Tr) (p : Int), (∀ u ∈ l, ∀ p, (f u p).length ≤ h u) → (spKs f l p).length ≤ (l.map h).sum
  | [], p, _ => Nat.le_refl _
  | u :: l, p, hf => by
    have h1 := hf u List.mem_cons_self p
    have h2 := spKs_len f h l (p + ((yieldE u).length : Nat)) fun u hu => hf u (List.mem_cons_of_mem _ hu)
    unfold spKs
    rw [List.length_append, List.map_cons, List.sum_cons]; omega
theorem spF_len : ∀ (n : Nat) (t : Tr) (p : Int), (spF n t p).length ≤ sz n t
  | 0, _, _ => Nat.zero_le _
  | n + 1, t, p => by
    have := spKs_len (spF n) (sz n) t.k p fun u _ p => spF_len n u p
    have es : sz (n + 1) t = 1 + (t.k.map (sz n)).sum := rfl
    unfold spF
    split
    · exact Nat.zero_le _
    · rw [List.length_cons]; omega
theorem spF_slim : ∀ (n : Nat) (t : Tr) (p : Int), Slim 6 n t → ∀ x ∈ spF n t p, Slim 6 n x.1
  | n + 1, t, p, h, x, hx => by
    have ks : ∀ (l : List Tr) (p : Int), (∀ u ∈ l, Slim 6 n u) → x ∈ spKs (spF n) l p → Slim 6 n x.1 := by
      intro l
      induction l with
      | nil => intro p _ h; cases h
      | cons u l ih =>
        intro p hl hx
        rcases List.mem_append.1 hx with hx | hx
        · exact spF_slim n u p (hl u List.mem_cons_self) x hx
        · exact ih _ (fun u hu => hl u (List.mem_cons_of_mem _ hu)) hx
    unfold spF at hx
    split at hx
    · cases hx
    · rcases List.mem_cons.1 hx with rfl | hx
      · exact h
      · exact (ks t.k p h.2.2.2.2 hx).more (Nat.le_refl _) (by omega)
/-! the small signs of a tree: spec -/
theorem drop1 {α : Type} (l : List α) (i : Nat) (d : α) (h : i < l.length) : List.drop i (List.take (i + 1) l) = [l.getD i d] := by
  rw [List.drop_take, Nat.add_sub_cancel_left, drop_cons l i d h]; rfl
theorem l3Yield_ev : ∀ (n : Nat), n ≤ 10 → ∀ (t : Tr), Slim 6 n t → EvP (fun k => spec_l3Yield k t.s t.r t.k) (fun r => r = yieldE t)
  | n + 1, hn, t, h => by
    have hb := yields_le n (yield_le n) t.k h.2.2.2.2
    have hs := sz_le (n + 1) t h (n + 1)
    have es : sz (n + 1) t = 1 + (t.k.map (sz n)).sum := rfl
    have hb2 : 7 ^ (n + 1) ≤ 7 ^ 10 := Nat.pow_le_pow_right (by omega) hn
    have h5 := h.2.2.2.2
    have h4 := h.2.2.2.1
    have loop : ∀ (q i : Nat), i + q = t.k.length → EvP (fun k => spec_l3Yield_L122 k (t.s, t.r, t.k) (yieldEs (t.k.take i)) (i : Int)) (fun r => r = yieldEs t.k) := by
      intro q
      induction q with
      | zero =>
        intro i hi
        refine EvP.fn (fun k => spec_l3Yield_L122_eq k _ _ _) (EvP.decN (by show ¬ (i : Int) < (t.k.length : Int); omega) (EvP.now ?_))
        rw [List.take_of_length_le (by omega)]
      | succ q ih =>
        intro i hi
        have hi1 : (i : Int) < (t.k.length : Int) := by omega
        refine EvP.fn (fun k => spec_l3Yield_L122_eq k _ _ _) (EvP.decY hi1 (EvP.yes (by omega) (EvP.yes hi1 ?_)))
        rw [Int.toNat_natCast]
        refine EvP.bind (l3Yield_ev n (by omega) (t.k.getD i t0) (h5 _ (getD_mem _ _ _ (by omega)))) fun x hx => ?_
        subst hx
        have e := yieldEs_take t.k i (by omega)
        have hl : (yieldEs (t.k.take (i + 1))).length ≤ (yieldEs t.k).length := by
          have : yieldEs t.k = yieldEs (t.k.take (i + 1)) ++ yieldEs (t.k.drop (i + 1)) := by rw [← yieldEs_append, List.take_append_drop]
          rw [this, List.length_append]; omega
        rw [e, List.length_append] at hl
        refine EvP.yes (by omega) ?_
        rw [w64 (by omega) (by omega)]
        have := ih (i + 1) (by omega)
        rw [e] at this
        exact this
    refine EvP.fn (fun k => spec_l3Yield_eq k _ _ _) (EvP.bind (signSmall_ev _) fun b hb => ?_)
    subst hb
    cases hsm : signSmall t.s with
    | true => exact EvP.yes rfl (EvP.now (yieldE_small hsm).symm)
    | false => rw [yieldE_kids hsm]; exact EvP.no (by simp) (loop t.k.length 0 (by omega))
/-! texts -/
def textOk (s : List UInt8) : Bool := s.all small && decide (s.length ≤ 8)
theorem specTextOk_loop (s : List UInt8) (hs : s.length < 4611686018427387904) : ∀ (n i : Nat), i + n = s.length → EvP (fun k => spec_TextOk_L26 k s (i : Int)) (fun r => r = ((s.drop i).all small && decide (s.length ≤ 8)))
  | 0, i, h => by
    refine EvP.fn (fun k => spec_TextOk_L26_eq k s _) (EvP.dec (fun h' => absurd h' (by omega)) (fun _ => EvP.now ?_))
    have e : decide ((s.length : Int) ≤ 8) = decide (s.length ≤ 8) := by congr 1; exact propext ⟨fun h => by omega, fun h => by omega⟩
    rw [e, List.drop_eq_nil_of_le (by omega)]; simp
  | n + 1, i, h => by
    refine EvP.fn (fun k => spec_TextOk_L26_eq k s _) (EvP.dec (fun _ => EvP.yes (by omega) (EvP.yes (by omega) ?_)) (fun h' => absurd (show (i : Int) < s.length by omega) h'))
    rw [Int.toNat_natCast]
    refine EvP.bind (l1Small_ev _) fun b hb => ?_
    subst hb
    rw [drop_cons s i 0 (by omega)]
    cases hc : small (s.getD i 0) with
    | false => exact EvP.yes rfl (EvP.now (by rw [List.all_cons, hc]; rfl))
    | true =>
      refine EvP.no (by simp) ?_
      rw [w64 (by omega) (by omega)]
      have := specTextOk_loop s hs n (i + 1) (by omega)
      refine this.mono fun r hr => by rw [hr, List.all_cons, hc, Bool.true_and]
theorem specTextOk_ev (s : List UInt8) (hs : s.length < 4611686018427387904) : EvP (fun k => spec_TextOk k s) (fun r => r = textOk s) := by
  refine EvP.fn (fun k => spec_TextOk_eq k s) ((specTextOk_loop s hs s.length 0 (by omega)).mono fun r hr => by rw [hr]; rfl)
theorem l4Text_loop : ∀ (n m : Nat) {b : List Int} {p : Int} (t : List UInt8) (i N : Int), i + n = N → 0 ≤ i → N ≤ 1000 → Rd (m + n) b p → t.length ≤ i → EvP (fun k => spec_l4Text_L58 k (b, p) N t i) (fun r => r.1.length ≤ N ∧ Rd m r.2.1 r.2.2)
  | 0, m, b, p, t, i, N, h, h0, hN, hr, ht => by
    refine EvP.fn (fun k => spec_l4Text_L58_eq k _ _ _ _) (EvP.decN (by omega) (EvP.now ⟨by show (t.length : Int) ≤ N; omega, hr⟩))
  | n + 1, m, b, p, t, i, N, h, h0, hN, hr, ht => by
    refine EvP.fn (fun k => spec_l4Text_L58_eq k _ _ _ _) (EvP.decY (by omega) ?_)
    refine EvP.bind (of_ev (m := m + n) (hr.less (by omega)) _ (by simp) (by simp)) fun a ha => ?_
    have hl : a.1.length = 1 := by
      have := ha.1
      simp only [List.mem_cons, List.not_mem_nil, or_false] at this
      rcases this with h | h | h | h | h | h <;> rw [h] <;> rfl
    refine EvP.yes (by omega) ?_
    rw [w64 (by omega) (by omega)]
    exact l4Text_loop n m _ (i + 1) N (by omega) (by omega) hN ha.2 (by simp [hl]; omega)
theorem l4Text_ev {m n : Nat} {b : List Int} {p : Int} {N : Int} (h0 : 0 ≤ N) (hN : N ≤ n) (hn : n ≤ 1000) (hr : Rd (m + n) b p) : EvP (fun k => spec_l4Text k b p N) (fun r => r.1.length ≤ N ∧ Rd m r.2.1 r.2.2) := by
  obtain ⟨N', rfl⟩ := Int.eq_ofNat_of_zero_le h0
  exact EvP.fn (fun k => spec_l4Text_eq k _ _ _) (l4Text_loop N' m [] 0 _ (by omega) (by omega) (by omega) (hr.less (by omega)) (by simp))
/-! texts -/
def abcd : List UInt8 := [97, 98, 99, 100]
theorem small_abcd (c : UInt8) : small c = abcd.contains c := by
  by_cases h1 : c = 97
  · subst h1; rfl
  by_cases h2 : c = 98
  · subst h2; rfl
  by_cases h3 : c = 99
  · subst h3; rfl
  by_cases h4 : c = 100
  · subst h4; rfl
  have e : abcd.contains c = false := by
    simp [abcd, h1, h2, h3, h4]
  rw [e]
  have k : ∀ n : UInt8, c ≠ n → c.toNat ≠ n.toNat := fun n h e => h (UInt8.toNat_inj.1 e)
  have a1 := k 97 h1
  have a2 := k 98 h2
  have a3 := k 99 h3
  have a4 := k 100 h4
  simp only [show (97 : UInt8).toNat = 97 from rfl, show (98 : UInt8).toNat = 98 from rfl, show (99 : UInt8).toNat = 99 from rfl, show (100 : UInt8).toNat = 100 from rfl] at a1 a2 a3 a4
  by_cases h5 : 97 ≤ c.toNat
  · have : ¬ c.toNat ≤ 100 := by omega
    simp [small, this]
  · simp [small, h5]
theorem trim_abcd (s : List UInt8) : (trimE s abcd = []) ↔ s.all small = true := by
  have e : (small : UInt8 → Bool) = abcd.contains := funext small_abcd
  rw [e]
  exact trim_nil s abcd
theorem implTextOk_ev (s : List UInt8) : EvP (fun k => impl_TextOk k s) (fun r => r = textOk s) := by
  refine EvP.fn (fun k => impl_TextOk_eq k s) (EvP.bind (P := fun r => r = textOk s) ?_ fun r hr => EvP.now hr)
  refine EvP.fn (fun k => impl_areSmalls_eq k _ _) (EvP.dec (fun h => ?_) (fun h => EvP.now ?_))
  · refine EvP.bind (P := fun r => r = trimE s abcd) (EvP.fn (fun k => strings_Trim_eq k _ _) (EvP.yes ⟨by omega, by decide, by decide⟩ (EvP.now rfl))) fun r hr => EvP.now ?_
    rw [hr]
    have h8 : s.length ≤ 8 := by omega
    show decide (trimE s abcd = []) = textOk s
    simp only [textOk, h8, decide_true, Bool.and_true]
    have := trim_abcd s
    cases hc : s.all small with
    | true => exact decide_eq_true (this.2 hc)
    | false => exact decide_eq_false (fun h => by rw [this.1 h] at hc; cases hc)
  · have h8 : ¬ s.length ≤ 8 := by omega
    simp [textOk, h8]
/-! what comes of signs -/
abbrev Rl := List UInt8 × List UInt8
/-- Signs come to what stands between two places of a text. -/
inductive Ders (R : List Rl) (s : List UInt8) : List UInt8 → Nat → Nat → Prop
  | nil (i : Nat) (hi : i ≤ s.length) : Ders R s [] i i
  | small (c : UInt8) (r : List UInt8) (i j : Nat) (hc : small c = true) (h : s[i]? = some c) (hr : Ders R s r (i + 1) j) : Ders R s (c :: r) i j
  | big (c : UInt8) (q r : List UInt8) (i m j : Nat) (hc : small c = false) (h : ([c], q) ∈ R) (hq : Ders R s q i m) (hr : Ders R s r m j) : Ders R s (c :: r) i j
theorem Ders.le {R : List Rl} {s l : List UInt8} {i j : Nat} (h : Ders R s l i j) : i ≤ j ∧ j ≤ s.length := by
  induction h with
  | nil i hi => exact ⟨Nat.le_refl _, hi⟩
  | small c r i j hc h hr ih => omega
  | big c q r i m j hc h hq hr ih1 ih2 => omega
theorem Ders.append {R : List Rl} {s a b : List UInt8} {i m j : Nat} (h : Ders R s a i m) (h' : Ders R s b m j) : Ders R s (a ++ b) i j := by
  induction h with
  | nil i hi => exact h'
  | small c r i j hc h hr ih => exact .small c _ i _ hc h (ih h')
  | big c q r i m j hc h hq hr ih1 ih2 => exact .big c q _ i m _ hc h hq (ih2 h')
theorem Ders.more {R R' : List Rl} (hR : ∀ x ∈ R, x ∈ R') {s l : List UInt8} {i j : Nat} (h : Ders R s l i j) : Ders R' s l i j := by
  induction h with
  | nil i hi => exact .nil i hi
  | small c r i j hc h hr ih => exact .small c _ i _ hc h ih
  | big c q r i m j hc h hq hr ih1 ih2 => exact .big c q _ i m _ hc (hR _ h) ih1 ih2
theorem Ders.put {R : List Rl} {s l : List UInt8} {i j : Nat} (h : Ders R s l i j) (a b : List UInt8) : Ders R (a ++ s ++ b) l (a.length + i) (a.length + j) := by
  induction h with
  | nil i hi => exact .nil _ (by simp; omega)
  | small c r i j hc h hr ih =>
    have hl := (List.getElem?_eq_some_iff.1 h).1
    refine .small c _ _ _ hc ?_ (by rw [Nat.add_assoc]; exact ih)
    rw [List.append_assoc, List.getElem?_append_right (by omega), List.getElem?_append_left (by omega), Nat.add_sub_cancel_left]
    exact h
  | big c q r i m j hc h hq hr ih1 ih2 => exact .big c q _ _ _ _ hc h ih1 ih2
/-- Told backward. -/
theorem Ders.turn {R R' : List Rl} (hR : ∀ x ∈ R, (x.1, x.2.reverse) ∈ R') {s l : List UInt8} {i j : Nat} (h : Ders R s l i j) : Ders R' s.reverse l.reverse (s.length - j) (s.length - i) := by
  induction h with
  | nil i hi => exact .nil _ (by simp)
  | small c r i j hc h hr ih =>
    have hl := (List.getElem?_eq_some_iff.1 h).1
    have hle := hr.le
    rw [List.reverse_cons]
    refine ih.append (.small c [] _ _ hc ?_ ?_)
    · rw [List.getElem?_reverse (by omega)]
      have : s.length - 1 - (s.length - (i + 1)) = i := by omega
      rw [this]; exact h
    · have : s.length - (i + 1) + 1 = s.length - i := by omega
      rw [this]; exact .nil _ (by simp)
  | big c q r i m j hc h hq hr ih1 ih2 =>
    rw [List.reverse_cons]
    exact ih2.append (.big c _ [] _ _ _ hc (hR _ h) ih1 (.nil _ (by simp)))
/-! charts -/
/-- A sign comes to a part, as a chart tells. -/
def step (C : UInt8 → Nat → Nat → Prop) (s : List UInt8) (c : UInt8) (i j : Nat) : Prop := (small c = true ∧ j = i + 1 ∧ s[i]? = some c) ∨ (small c = false ∧ C c i j)
def split (C : UInt8 → Nat → Nat → Prop) (s : List UInt8) : List UInt8 → Nat → Nat → Prop
  | [], i, j => i = j
  | c :: r, i, j => ∃ m, i ≤ m ∧ m ≤ j ∧ step C s c i m ∧ split C s r m j
theorem split_le {C : UInt8 → Nat → Nat → Prop} {s : List UInt8} : ∀ {l : List UInt8} {i j : Nat}, split C s l i j → i ≤ j
  | [], i, j, h => Nat.le_of_eq h
  | _ :: _, i, j, ⟨m, h1, h2, _, _⟩ => Nat.le_trans h1 h2
/-- What a chart tells is so. -/
theorem split_sound {R : List Rl} {C : UInt8 → Nat → Nat → Prop} {s : List UInt8} (hC : ∀ c i j, small c = false → C c i j → Ders R s [c] i j) : ∀ {l : List UInt8} {i j : Nat}, j ≤ s.length → split C s l i j → Ders R s l i j
  | [], i, j, hj, h => by
    have h : i = j := h
    subst h; exact .nil _ hj
  | c :: r, i, j, hj, ⟨m, h1, h2, h3, h4⟩ => by
    have hr := split_sound hC hj h4
    rcases h3 with ⟨a1, rfl, a3⟩ | ⟨a1, a2⟩
    · exact .small c r i j a1 a3 hr
    · exact (hC c i m a1 a2).append hr
/-- A chart that is closed tells all. -/
theorem split_all {R : List Rl} {C : UInt8 → Nat → Nat → Prop} {s : List UInt8} (hC : ∀ c q i j, small c = false → ([c], q) ∈ R → i ≤ j → j ≤ s.length → split C s q i j → C c i j) {l : List UInt8} {i j : Nat} (h : Ders R s l i j) : split C s l i j := by
  induction h with
  | nil i hi => rfl
  | small c r i j hc h hr ih => exact ⟨i + 1, by omega, split_le ih, .inl ⟨hc, rfl, h⟩, ih⟩
  | big c q r i m j hc h hq hr ih1 ih2 => exact ⟨m, split_le ih1, split_le ih2, .inr ⟨hc, hC c q i m hc h hq.le.1 hq.le.2 ih1⟩, ih2⟩
theorem split_mono {C C' : UInt8 → Nat → Nat → Prop} (h : ∀ c i j, C c i j → C' c i j) {s : List UInt8} : ∀ {l : List UInt8} {i j : Nat}, split C s l i j → split C' s l i j
  | [], i, j, hh => hh
  | c :: r, i, j, ⟨m, h1, h2, h3, h4⟩ => ⟨m, h1, h2, h3.imp id (fun ⟨a, b⟩ => ⟨a, h _ _ _ b⟩), split_mono h h4⟩
theorem ders_one {C : UInt8 → Nat → Nat → Prop} {s : List UInt8} {c : UInt8} {i j : Nat} (hc : small c = false) (h : split C s [c] i j) : C c i j := by
  obtain ⟨m, h1, h2, h3, h4⟩ := h
  have h4 : m = j := h4
  subst h4
  rcases h3 with ⟨a, _⟩ | ⟨_, a⟩
  · rw [hc] at a; cases a
  · exact a
/-! charts kept in a map -/
abbrev PT : Ty := .pair .str (.pair (.int .i64) (.int .i64))
abbrev Key := List UInt8 × Int × Int
abbrev Mp := List (Key × Bool)
theorem eqD_key (x y : Key) : eqD PT x y = decide (x = y) := by
  obtain ⟨a, b, c⟩ := x
  obtain ⟨d, e, f⟩ := y
  show (decide (a = d) && (decide (b = e) && decide (c = f))) = _
  rw [Bool.eq_iff_iff]
  simp only [Bool.and_eq_true, decide_eq_true_eq, Prod.mk.injEq]
def mv (xs : Mp) (x : Key) : Bool := mval PT .bool xs x
theorem mv_nil (x : Key) : mv [] x = false := rfl
theorem mv_put : ∀ (xs : Mp) (x : Key) (z : Key), mv (mput PT .bool xs x true) z = if z = x then true else mv xs z
  | [], x, z => by
    show (match eqD PT z x with | true => true | false => false) = _
    rw [eqD_key]
    by_cases h : z = x <;> simp [h, mv, mval, Ty.dflt]
  | p :: r, x, z => by
    have ih := mv_put r x z
    unfold mv at ih ⊢
    unfold mput
    rw [eqD_key]
    by_cases h : x = p.1
    · rw [decide_eq_true h]
      show mval PT .bool ((p.1, true) :: r) z = _
      unfold mval
      rw [eqD_key, ← h]
      by_cases h2 : z = x
      · simp [h2]
      · simp [h2]
    · rw [decide_eq_false h]
      show mval PT .bool (p :: mput PT .bool r x true) z = _
      unfold mval
      rw [eqD_key]
      by_cases h2 : z = p.1
      · have h3 : ¬ z = x := fun e => h (e ▸ h2)
        rw [decide_eq_true h2, if_neg h3]
      · rw [decide_eq_false h2]; exact ih
def has (xs : Mp) (c : UInt8) (i j : Nat) : Prop := mv xs ([c], (i : Int), (j : Int)) = true
def below (xs xs' : Mp) : Prop := ∀ z, mv xs z = true → mv xs' z = true
theorem below_has {xs xs' : Mp} (h : below xs xs') : ∀ c i j, has xs c i j → has xs' c i j := fun c i j => h _
theorem below_put (xs : Mp) (x : Key) : below xs (mput PT .bool xs x true) := fun z h => by
  rw [mv_put]; split
  · rfl
  · exact h
/-- What is still to be found. -/
def keys (R : List Rl) (n : Nat) : List Key := R.flatMap fun r => (List.range (n + 1)).flatMap fun (i : Nat) => (List.range (n + 1)).map fun (j : Nat) => ((r.1, (i : Int), (j : Int)) : Key)
def todo (R : List Rl) (n : Nat) (xs : Mp) : Nat := (keys R n).countP fun x => !mv xs x
theorem todo_le (R : List Rl) (n : Nat) {xs xs' : Mp} (h : below xs xs') : todo R n xs' ≤ todo R n xs := by
  refine List.countP_mono_left fun x _ hx => ?_
  cases hv : mv xs x with
  | false => rfl
  | true => rw [h x hv] at hx; cases hx
theorem countP_lt {α : Type} (p q : α → Bool) (h : ∀ x, p x = true → q x = true) : ∀ (l : List α) (a : α), a ∈ l → p a = false → q a = true → l.countP p < l.countP q
  | b :: l, a, ha, hp, hq => by
    have hle : l.countP p ≤ l.countP q := List.countP_mono_left fun x _ hx => h x hx
    rw [List.countP_cons, List.countP_cons]
    rcases List.mem_cons.1 ha with rfl | ha
    · simp only [hp, hq, if_true]; simp; omega
    · have := countP_lt p q h l a ha hp hq
      have : (if p b = true then 1 else 0) ≤ (if q b = true then 1 else 0) := by
        by_cases hb : p b = true
        · simp [hb, h b hb]
        · simp [hb]
      omega
theorem todo_lt (R : List Rl) (n : Nat) {xs : Mp} {r : Rl} (hr : r ∈ R) {i j : Nat} (hi : i ≤ n) (hj : j ≤ n) (h : mv xs (r.1, (i : Int), (j : Int)) = false) : todo R n (mput PT .bool xs (r.1, (i : Int), (j : Int)) true) < todo R n xs := by
  refine countP_lt _ _ (fun x hx => ?_) _ (r.1, (i : Int), (j : Int)) ?_ ?_ ?_
  · cases hv : mv xs x with
    | false => rfl
    | true => rw [below_put xs _ x hv] at hx; cases hx
  · exact List.mem_flatMap.2 ⟨r, hr, List.mem_flatMap.2 ⟨i, List.mem_range.2 (by omega), List.mem_map.2 ⟨j, List.mem_range.2 (by omega), rfl⟩⟩⟩
  · rw [mv_put, if_pos rfl]; rfl
  · rw [h]; rfl
/-- Rules of one sign each to the left. -/
def Nice (R : List Rl) : Prop := ∀ x ∈ R, (∃ c, x.1 = [c] ∧ small c = false) ∧ x.2.length ≤ 1000
/-- What a chart tells is so. -/
def Snd (R : List Rl) (s : List UInt8) (xs : Mp) : Prop := ∀ c i j, has xs c i j → Ders R s [c] i j
theorem snd_nil (R : List Rl) (s : List UInt8) : Snd R s [] := fun c i j h => by cases h
theorem snd_put {R : List Rl} {s : List UInt8} {xs : Mp} (h : Snd R s xs) {r : Rl} (hr : r ∈ R) {c : UInt8} (hc : r.1 = [c]) (hs : small c = false) {i j : Nat} (hj : j ≤ s.length) (hsp : split (has xs) s r.2 i j) : Snd R s (mput PT .bool xs (r.1, (i : Int), (j : Int)) true) := by
  intro d a b hd
  unfold has at hd
  rw [mv_put] at hd
  split at hd
  · rename_i e
    simp only [Prod.mk.injEq, hc, List.cons.injEq, and_true] at e
    obtain ⟨rfl, e1, e2⟩ := e
    obtain rfl : a = i := by omega
    obtain rfl : b = j := by omega
    refine .big d r.2 [] a b b hs (hc ▸ hr) (split_sound (fun c i j _ h' => h c i j h') hj hsp) (.nil b hj)
  · exact h d a b hd
/-- How a chart grows. -/
structure Gw (R : List Rl) (s : List UInt8) (ch : Bool) (xs : Mp) (ch' : Bool) (xs' : Mp) : Prop where
  bel : below xs xs'
  snd : Snd R s xs'
  up : ch = true → ch' = true
  less : ch' = true → ch = true ∨ todo R s.length xs' < todo R s.length xs
  same : ch' = false → xs' = xs
theorem Gw.refl {R : List Rl} {s : List UInt8} {ch : Bool} {xs : Mp} (h : Snd R s xs) : Gw R s ch xs ch xs := ⟨fun _ h => h, h, id, .inl, fun _ => rfl⟩
theorem Gw.trans {R : List Rl} {s : List UInt8} {a b c : Bool} {x y z : Mp} (h : Gw R s a x b y) (k : Gw R s b y c z) : Gw R s a x c z := by
  refine ⟨fun v hv => k.bel v (h.bel v hv), k.snd, fun e => k.up (h.up e), fun e => ?_, fun e => ?_⟩
  · rcases k.less e with hb | hl
    · rcases h.less hb with ha | hl
      · exact .inl ha
      · exact .inr (Nat.lt_of_le_of_lt (todo_le R s.length k.bel) hl)
    · exact .inr (Nat.lt_of_lt_of_le hl (todo_le R s.length h.bel))
  · have hb : b = false := by
      cases b with
      | false => rfl
      | true => rw [k.up rfl] at e; cases e
    rw [k.same e, h.same hb]
/-- A part where nothing is left to find. -/
def Shut (s : List UInt8) (xs : Mp) (r : Rl) (i j : Nat) : Prop := split (has xs) s r.2 i j → mv xs (r.1, (i : Int), (j : Int)) = true
theorem closed_all {R : List Rl} (hR : Nice R) {s : List UInt8} {xs : Mp} (h : Snd R s xs) (hc : ∀ r ∈ R, ∀ i j, i ≤ j → j ≤ s.length → Shut s xs r i j) (c : UInt8) (hs : small c = false) (i j : Nat) : has xs c i j ↔ Ders R s [c] i j :=
  ⟨h c i j, fun hd => ders_one (s := s) hs (split_all (fun d q a b hd' hq hab hb hsp => hc _ hq a b hab hb hsp) hd)⟩
/-! charts: impl -/
theorem drop1u (l : List UInt8) (i : Nat) (h : i < l.length) : List.drop i (List.take (i + 1) l) = [l.getD i 0] := by
  rw [List.drop_take, Nat.add_sub_cancel_left, drop_cons l i 0 h]; rfl
theorem getD_some (l : List UInt8) (i : Nat) (h : i < l.length) : l[i]? = some (l.getD i 0) := by
  rw [List.getD_eq_getElem?_getD, List.getElem?_eq_getElem h]; rfl
theorem derives_ev (g : GramT) (s : List UInt8) (hs : s.length ≤ 1000) (xs : Mp) (c : UInt8) (i j : Nat) (hij : i ≤ j) (hj : j ≤ s.length) : EvP (fun k => impl_chart_derives k g.1 g.2 s xs [c] (i : Int) (j : Int)) (fun r => r = true ↔ step (has xs) s c i j) := by
  refine EvP.fn (fun k => impl_chart_derives_eq k _ _ _ _ _ _ _) (EvP.bind (implSignSmall_ev _) fun b hb => ?_)
  have hb : b = small c := hb
  subst hb
  rw [w64 (by omega) (by omega)]
  refine EvP.ite (fun hc => EvP.dec (fun he => ?_) (fun he => EvP.now ⟨fun h => (by cases h), fun h => ?_⟩)) (fun hc => EvP.now ?_)
  · have he : j = i + 1 := by omega
    subst he
    refine EvP.yes (by omega) (EvP.yes (by omega) (EvP.yes (by omega) (EvP.now ?_)))
    rw [Int.toNat_natCast, Int.toNat_natCast, drop1u s i (by omega), decide_eq_true_eq]
    refine ⟨fun h => .inl ⟨hc, rfl, ?_⟩, fun h => ?_⟩
    · rw [getD_some s i (by omega)]; exact congrArg some (List.cons.inj h).1
    · rcases h with ⟨_, _, h⟩ | ⟨h, _⟩
      · rw [getD_some s i (by omega)] at h; rw [Option.some.inj h]
      · rw [hc] at h; cases h
  · rcases h with ⟨_, h, _⟩ | ⟨h, _⟩
    · omega
    · rw [hc] at h; cases h
  · have hc : small c = false := by simpa using hc
    refine ⟨fun h => .inr ⟨hc, h⟩, fun h => ?_⟩
    rcases h with ⟨h, _⟩ | ⟨_, h⟩
    · rw [hc] at h; cases h
    · exact h
theorem split_ev (g : GramT) (s : List UInt8) (hs : s.length ≤ 1000) (xs : Mp) : ∀ (l : List UInt8), l.length ≤ 1000 → ∀ (i j : Nat), i ≤ j → j ≤ s.length → EvP (fun k => impl_chart_split k g.1 g.2 s xs l (i : Int) (j : Int)) (fun r => r = true ↔ split (has xs) s l i j)
  | [], hl, i, j, hij, hj => EvP.fn (fun k => impl_chart_split_eq k _ _ _ _ _ _ _) (EvP.decY rfl (EvP.now (by
      rw [decide_eq_true_eq]
      exact ⟨fun h => by show i = j; omega, fun h => by have h : i = j := h; omega⟩)))
  | c :: l, hl, i, j, hij, hj => by
    have hl : l.length + 1 ≤ 1000 := hl
    have e1 : List.drop (Int.toNat (0 : Int)) (List.take (Int.toNat (1 : Int)) (c :: l)) = [c] := rfl
    have e2 : List.drop (Int.toNat (1 : Int)) (List.take (((c :: l).length : Nat) : Int).toNat (c :: l)) = l := by
      rw [Int.toNat_natCast, List.take_of_length_le (Nat.le_refl _)]; rfl
    have loop : ∀ (q m : Nat), m + q = j + 1 → i ≤ m → EvP (fun k => impl_chart_split_L58 k g.1 g.2 s xs (c :: l) (i : Int) (j : Int) (m : Int)) (fun r => r = true ↔ ∃ m', m ≤ m' ∧ m' ≤ j ∧ step (has xs) s c i m' ∧ split (has xs) s l m' j) := by
      intro q
      induction q with
      | zero =>
        intro m hm him
        exact EvP.fn (fun k => impl_chart_split_L58_eq k _ _ _ _ _ _ _ _) (EvP.decN (by omega) (EvP.now ⟨fun h => (by cases h), fun ⟨m', h1, h2, _⟩ => (by omega)⟩))
      | succ q ih =>
        intro m hm him
        have next : ∀ {P : Prop}, (P → step (has xs) s c i m ∧ split (has xs) s l m j → False) → P → EvP (fun k => impl_chart_split_L58 k g.1 g.2 s xs (c :: l) (i : Int) (j : Int) ((m + 1 : Nat) : Int)) (fun r => r = true ↔ ∃ m', m ≤ m' ∧ m' ≤ j ∧ step (has xs) s c i m' ∧ split (has xs) s l m' j) := fun {P} hno hp =>
          (ih (m + 1) (by omega) (by omega)).mono fun r hr => by
            rw [hr]
            refine ⟨fun ⟨m', h1, h2⟩ => ⟨m', by omega, h2⟩, fun ⟨m', h1, h2, h3⟩ => ⟨m', ?_, h2, h3⟩⟩
            rcases Nat.eq_or_lt_of_le h1 with rfl | h
            · exact absurd h3 (fun h3 => hno hp h3)
            · exact h
        have ew : IntKind.i64.wrap ((m : Int) + 1) = ((m + 1 : Nat) : Int) := w64 (by omega) (by omega)
        refine EvP.fn (fun k => impl_chart_split_L58_eq k _ _ _ _ _ _ _ _) (EvP.decY (by omega) (EvP.yes (by omega) (EvP.yes (by omega) (EvP.yes (by rw [List.length_cons]; omega) ?_))))
        rw [e1, e2, ew]
        refine EvP.bind (derives_ev g s hs xs c i m him (by omega)) fun b hb => EvP.ite (fun h1 => EvP.yes (by omega) (EvP.yes (by rw [List.length_cons]; omega) (EvP.yes (by omega) (EvP.bind (split_ev g s hs xs l (by omega) m j (by omega) hj) fun d hd => EvP.ite (fun h2 => EvP.now ?_) (fun h2 => ?_))))) (fun h1 => ?_)
        · exact ⟨fun _ => ⟨m, Nat.le_refl _, by omega, hb.1 h1, hd.1 h2⟩, fun _ => rfl⟩
        · exact next (fun h2 h => h2 (hd.2 h.2)) h2
        · exact next (fun h1 h => h1 (hb.2 h.1)) h1
    refine EvP.fn (fun k => impl_chart_split_eq k _ _ _ _ _ _ _) (EvP.decN (by simp) ((loop (j + 1 - i) i (by omega) (Nat.le_refl _)).mono fun r hr => ?_))
    rw [hr]
    exact ⟨fun ⟨m, h1, h2, h3⟩ => ⟨m, h1, h2, h3⟩, fun ⟨m, h1, h2, h3⟩ => ⟨m, h1, h2, h3⟩⟩
def Chart (g : GramT) (s : List UInt8) (r : List UInt8 × List Rl × List UInt8 × Mp) : Prop := ∃ xs, r = (g.1, g.2, s, xs) ∧ Snd g.2 s xs ∧ ∀ r ∈ g.2, ∀ i j, i ≤ j → j ≤ s.length → Shut s xs r i j
section
variable {g : GramT} {s : List UInt8} {xs0 : Mp}
theorem rules_chart (hR : Nice g.2) (hg : g.2.length ≤ 1000) (hs : s.length ≤ 1000) {i j : Nat} (hij : i ≤ j) (hj : j ≤ s.length) (D : Prop) {P : (List UInt8 × List Rl × List UInt8 × Mp) → Prop}
    (nx : ∀ xs ch, Gw g.2 s false xs0 ch xs → (ch = false → D ∧ ∀ r ∈ g.2, Shut s xs0 r i j) → EvP (fun k => impl_chartOf_L238994 k s g (g.1, g.2, s, xs) ch (i : Int) ((j + 1 : Nat) : Int)) P) :
    ∀ (n q : Nat), q + n = g.2.length → ∀ xs ch, Gw g.2 s false xs0 ch xs → (ch = false → D ∧ ∀ r ∈ g.2.take q, Shut s xs0 r i j) → EvP (fun k => impl_chartOf_L15295634 k s g (g.1, g.2, s, xs) ch (i : Int) (j : Int) g.2 (g.2.length : Int) (q : Int)) P
  | 0, q, h, xs, ch, hw, hd => by
    refine EvP.fn (fun k => impl_chartOf_L15295634_eq k _ _ _ _ _ _ _ _ _) (EvP.decN (by omega) ?_)
    rw [w64 (by omega) (by omega)]
    rw [List.take_of_length_le (by omega)] at hd
    exact nx xs ch hw hd
  | n + 1, q, h, xs, ch, hw, hd => by
    have hm := getD_mem g.2 q ([], []) (by omega)
    obtain ⟨⟨c, hc, hsm⟩, hlen⟩ := hR _ hm
    have e : g.2.take (q + 1) = g.2.take q ++ [g.2.getD q ([], [])] := by
      rw [List.take_add_one, List.getD_eq_getElem?_getD, List.getElem?_eq_getElem (show q < g.2.length by omega)]; rfl
    have stay : ∀ {p : Prop}, p → (p → ch = false → Shut s xs (g.2.getD q ([], [])) i j) → EvP (fun k => impl_chartOf_L15295634 k s g (g.1, g.2, s, xs) ch (i : Int) (j : Int) g.2 (g.2.length : Int) ((q + 1 : Nat) : Int)) P := fun {p} hp hsh => by
      refine rules_chart hR hg hs hij hj D nx n (q + 1) (by omega) xs ch hw fun hch => ⟨(hd hch).1, fun r hr => ?_⟩
      rw [e] at hr
      rcases List.mem_append.1 hr with hr | hr
      · exact (hd hch).2 r hr
      · rw [List.mem_singleton.1 hr, ← hw.same hch]; exact hsh hp hch
    have ew : IntKind.i64.wrap ((q : Int) + 1) = ((q + 1 : Nat) : Int) := w64 (by omega) (by omega)
    refine EvP.fn (fun k => impl_chartOf_L15295634_eq k _ _ _ _ _ _ _ _ _) (EvP.decY (by omega) (EvP.yes (by omega) (EvP.yes (by omega) ?_)))
    rw [ew, Int.toNat_natCast]
    refine EvP.ite (fun hno => EvP.bind (split_ev g s hs xs (g.2.getD q ([], [])).2 hlen i j hij hj) fun b hb => EvP.ite (fun h2 => ?_) (fun h2 => ?_)) (fun hyes => ?_)
    · have hno : mv xs ((g.2.getD q ([], [])).1, (i : Int), (j : Int)) = false := by
        have hno : (!mv xs ((g.2.getD q ([], [])).1, (i : Int), (j : Int))) = true := hno
        simpa using hno
      have hw2 : Gw g.2 s ch xs true (mput PT .bool xs ((g.2.getD q ([], [])).1, (i : Int), (j : Int)) true) :=
        ⟨below_put _ _, snd_put hw.snd hm hc hsm hj (hb.1 h2), fun _ => rfl, fun _ => .inr (todo_lt _ _ hm (by omega) hj hno), fun h => by cases h⟩
      exact rules_chart hR hg hs hij hj D nx n (q + 1) (by omega) _ true (hw.trans hw2) fun h => by cases h
    · exact stay h2 fun h2 _ hsp => absurd (hb.2 hsp) h2
    · have hyes : mv xs ((g.2.getD q ([], [])).1, (i : Int), (j : Int)) = true := by
        have hyes : ¬ (!mv xs ((g.2.getD q ([], [])).1, (i : Int), (j : Int))) = true := hyes
        simpa using hyes
      exact stay hyes fun h _ _ => h
theorem tos_chart (hR : Nice g.2) (hg : g.2.length ≤ 1000) (hs : s.length ≤ 1000) {i : Nat} (hi : i ≤ s.length) (D : Prop) {P : (List UInt8 × List Rl × List UInt8 × Mp) → Prop}
    (nx : ∀ xs ch, Gw g.2 s false xs0 ch xs → (ch = false → D ∧ ∀ r ∈ g.2, ∀ b, i ≤ b → b ≤ s.length → Shut s xs0 r i b) → EvP (fun k => impl_chartOf_L3734 k s g (g.1, g.2, s, xs) ch ((i : Int) - 1)) P) :
    ∀ (n j : Nat), j + n = s.length + 1 → i ≤ j → ∀ xs ch, Gw g.2 s false xs0 ch xs → (ch = false → D ∧ ∀ r ∈ g.2, ∀ b, i ≤ b → b < j → Shut s xs0 r i b) → EvP (fun k => impl_chartOf_L238994 k s g (g.1, g.2, s, xs) ch (i : Int) (j : Int)) P
  | 0, j, h, hij, xs, ch, hw, hd => by
    refine EvP.fn (fun k => impl_chartOf_L238994_eq k _ _ _ _ _ _) (EvP.decN (by omega) ?_)
    rw [w64 (by omega) (by omega)]
    exact nx xs ch hw fun hch => ⟨(hd hch).1, fun r hr b h1 h2 => (hd hch).2 r hr b h1 (by omega)⟩
  | n + 1, j, h, hij, xs, ch, hw, hd => by
    refine EvP.fn (fun k => impl_chartOf_L238994_eq k _ _ _ _ _ _) (EvP.decY (by omega) ?_)
    refine rules_chart hR hg hs hij (by omega) (D ∧ ∀ r ∈ g.2, ∀ b, i ≤ b → b < j → Shut s xs0 r i b) (fun xs' ch' hw' hd' => tos_chart hR hg hs hi D nx n (j + 1) (by omega) (by omega) xs' ch' hw' fun hch => ⟨(hd' hch).1.1, fun r hr b h1 h2 => ?_⟩) g.2.length 0 (Nat.zero_add _) xs ch hw (fun hch => ⟨hd hch, fun r hr => by cases hr⟩)
    rcases Nat.lt_or_ge b j with hb | hb
    · exact (hd' hch).1.2 r hr b h1 hb
    · obtain rfl : b = j := by omega
      exact (hd' hch).2 r hr
theorem froms_chart (hR : Nice g.2) (hg : g.2.length ≤ 1000) (hs : s.length ≤ 1000) {P : (List UInt8 × List Rl × List UInt8 × Mp) → Prop}
    (nx : ∀ xs ch, Gw g.2 s false xs0 ch xs → (ch = false → ∀ r ∈ g.2, ∀ a b, a ≤ b → b ≤ s.length → Shut s xs0 r a b) → EvP (fun k => impl_chartOf_L58 k s g (g.1, g.2, s, xs) ch) P) :
    ∀ (i : Nat), i ≤ s.length + 1 → ∀ xs ch, Gw g.2 s false xs0 ch xs → (ch = false → ∀ r ∈ g.2, ∀ a b, i ≤ a → a ≤ b → b ≤ s.length → Shut s xs0 r a b) → EvP (fun k => impl_chartOf_L3734 k s g (g.1, g.2, s, xs) ch ((i : Int) - 1)) P
  | 0, h, xs, ch, hw, hd => EvP.fn (fun k => impl_chartOf_L3734_eq k _ _ _ _ _) (EvP.decN (by omega) (nx xs ch hw fun hch r hr a b h1 h2 => hd hch r hr a b (Nat.zero_le _) h1 h2))
  | i + 1, h, xs, ch, hw, hd => by
    have e : (((i + 1 : Nat) : Int) - 1) = (i : Int) := by omega
    rw [e]
    refine EvP.fn (fun k => impl_chartOf_L3734_eq k _ _ _ _ _) (EvP.decY (by omega) ?_)
    refine tos_chart hR hg hs (by omega) (∀ r ∈ g.2, ∀ a b, i + 1 ≤ a → a ≤ b → b ≤ s.length → Shut s xs0 r a b) (fun xs' ch' hw' hd' => froms_chart hR hg hs nx i (by omega) xs' ch' hw' fun hch r hr a b h1 h2 h3 => ?_) (s.length + 1 - i) i (by omega) (Nat.le_refl _) xs ch hw (fun hch => ⟨hd hch, fun r hr b h1 h2 => by omega⟩)
    rcases Nat.eq_or_lt_of_le h1 with rfl | h1
    · exact (hd' hch).2 r hr b h2 h3
    · exact (hd' hch).1 r hr a b h1 h2 h3
theorem while_chart (hR : Nice g.2) (hg : g.2.length ≤ 1000) (hs : s.length ≤ 1000) : ∀ (n : Nat) (xs : Mp), Snd g.2 s xs → todo g.2 s.length xs ≤ n → EvP (fun k => impl_chartOf_L58 k s g (g.1, g.2, s, xs) true) (Chart g s) := by
  intro n
  induction n with
  | zero =>
    intro xs hsn hn
    refine EvP.fn (fun k => impl_chartOf_L58_eq k _ _ _ _) (EvP.yes rfl ?_)
    have := froms_chart (xs0 := xs) (P := Chart g s) hR hg hs (fun xs' ch' hw hd => ?_) (s.length + 1) (Nat.le_refl _) xs false (Gw.refl hsn) (fun _ r hr a b h1 h2 h3 => by omega)
    · have e : (((s.length + 1 : Nat) : Int) - 1) = (s.length : Int) := by omega
      rw [e] at this; exact this
    · cases ch' with
      | true => rcases hw.less rfl with h | h
                · cases h
                · omega
      | false => exact EvP.fn (fun k => impl_chartOf_L58_eq k _ _ _ _) (EvP.no (by simp) (EvP.now ⟨xs', rfl, hw.snd, by rw [hw.same rfl]; exact hd rfl⟩))
  | succ n ih =>
    intro xs hsn hn
    refine EvP.fn (fun k => impl_chartOf_L58_eq k _ _ _ _) (EvP.yes rfl ?_)
    have := froms_chart (xs0 := xs) (P := Chart g s) hR hg hs (fun xs' ch' hw hd => ?_) (s.length + 1) (Nat.le_refl _) xs false (Gw.refl hsn) (fun _ r hr a b h1 h2 h3 => by omega)
    · have e : (((s.length + 1 : Nat) : Int) - 1) = (s.length : Int) := by omega
      rw [e] at this; exact this
    · cases ch' with
      | true =>
        rcases hw.less rfl with h | h
        · cases h
        · exact ih xs' hw.snd (by omega)
      | false => exact EvP.fn (fun k => impl_chartOf_L58_eq k _ _ _ _) (EvP.no (by simp) (EvP.now ⟨xs', rfl, hw.snd, by rw [hw.same rfl]; exact hd rfl⟩))
end
theorem chart_ev (g : GramT) (s : List UInt8) (hR : Nice g.2) (hg : g.2.length ≤ 1000) (hs : s.length ≤ 1000) : EvP (fun k => impl_chartOf k g.1 g.2 s) (Chart g s) :=
  EvP.fn (fun k => impl_chartOf_eq k _ _ _) (while_chart hR hg hs _ [] (snd_nil _ _) (Nat.le_refl _))
theorem nice_of {g : GramT} (h : GramOkP g) : Nice g.2 := by
  intro x hx
  obtain ⟨j, hj, rfl⟩ := List.mem_iff_getElem.1 hx
  have := (h.2.2 j hj).1
  rw [List.getD_eq_getElem?_getD, List.getElem?_eq_getElem hj] at this
  have this : ruleOk g.2[j] = true := this
  unfold ruleOk at this
  simp only [Bool.and_eq_true, decide_eq_true_eq] at this
  obtain ⟨h1, h2, h3⟩ := this
  refine ⟨?_, by omega⟩
  match hx : g.2[j].1, h1 with
  | [c], h1 =>
    refine ⟨c, rfl, ?_⟩
    have h1 : big c = true := h1
    unfold big at h1
    unfold small
    simp only [Bool.and_eq_true, decide_eq_true_eq] at h1
    simp only [Bool.and_eq_false_imp, decide_eq_true_eq, decide_eq_false_iff_not]
    omega
theorem isDerived_ev (g : GramT) (s : List UInt8) (hok : GramOkP g) (hs : s.length ≤ 1000) : EvP (fun k => impl_isDerived k g.1 g.2 s) (fun r => r = true ↔ Ders g.2 s g.1 0 s.length) := by
  have hg := hok.2.1
  have hR := nice_of hok
  refine EvP.fn (fun k => impl_isDerived_eq k _ _ _) (EvP.bind (chart_ev g s hR (by omega) hs) fun x hx => ?_)
  obtain ⟨xs, rfl, h1, h2⟩ := hx
  have hb := hok.1
  match hg1 : g.1, hb with
  | [c], hb =>
    have hb : big c = true := hb
    have hc : small c = false := by
      unfold big at hb
      unfold small
      simp only [Bool.and_eq_true, decide_eq_true_eq] at hb
      simp only [Bool.and_eq_false_imp, decide_eq_true_eq, decide_eq_false_iff_not]
      omega
    have hd := derives_ev g s hs xs c 0 s.length (Nat.zero_le _) (Nat.le_refl _)
    rw [hg1] at hd
    refine EvP.bind hd fun b hb => EvP.now ?_
    rw [hb, ← closed_all hR h1 h2 c hc 0 s.length]
    exact ⟨fun h => by
      rcases h with ⟨h, _⟩ | ⟨_, h⟩
      · rw [hc] at h; cases h
      · exact h, fun h => .inr ⟨hc, h⟩⟩
/-! whether a text comes of rules: impl -/
def AllP (g : GramT) (s : List UInt8) : Prop := GramOkP g ∧ textOk s = true ∧ Ders g.2 s g.1 0 s.length
theorem implAll_ev (g : GramT) (s : List UInt8) : EvP (fun k => impl_AllIs k g.1 g.2 s) (fun r => r = true ↔ AllP g s) := by
  refine EvP.fn (fun k => impl_AllIs_eq k _ _ _) (EvP.bind (P := fun r => r = true ↔ GramOkP g ∧ textOk s = true) (EvP.fn (fun k => impl_areBoth_eq k _ _ _) (EvP.bind (implGramOk_ev g) fun b hb => EvP.ite (fun h => EvP.bind (implTextOk_ev s) fun c hc => EvP.now ?_) (fun h => EvP.now ?_))) fun b hb => EvP.ite (fun h => ?_) (fun h => EvP.now ?_))
  · rw [hc]; exact ⟨fun h' => ⟨hb.1 h, h'⟩, fun h' => h'.2⟩
  · exact ⟨fun h => (by cases h), fun h' => absurd (hb.2 h'.1) h⟩
  · obtain ⟨h1, h2⟩ := hb.1 h
    have hl : s.length ≤ 8 := by
      unfold textOk at h2
      simp only [Bool.and_eq_true, decide_eq_true_eq] at h2
      exact h2.2
    refine EvP.bind (isDerived_ev g s h1 (by omega)) fun c hc => EvP.now ?_
    rw [hc]; exact ⟨fun h' => ⟨h1, h2, h'⟩, fun h' => h'.2.2⟩
  · exact ⟨fun h => (by cases h), fun h' => absurd (hb.2 ⟨h'.1, h'.2.1⟩) h⟩
/-! rules and a text drawn -/
theorem l4SomeG_L7_ev {m : Nat} {b : List Int} {p : Int} (hr : Rd (m + 10) b p) : EvP (fun k => spec_l4Some_L7 k (b, p)) (fun r => r.1.length ≤ 20 ∧ Rd m r.2.1 r.2.2) := by
  refine EvP.fn (fun k => spec_l4Some_L7_eq k _) (EvP.bind (pick_ev (m := m + 9) hr (by omega) (by omega)) fun a ha => EvP.bind (l4Text_ev (m := m + 3) (n := 6) ha.1 (by omega) (by omega) (ha.2.2.less (by omega))) fun c hc => EvP.bind (pick_ev (m := m + 2) hc.2 (by omega) (by omega)) fun d hd => ?_)
  refine EvP.dec (fun _ => EvP.bind (of_ev (m := m + 1) hd.2.2 _ (by simp) (by simp)) fun e he => ?_) (fun _ => EvP.now ⟨by show c.1.length ≤ 20; omega, hd.2.2.less (by omega)⟩)
  have hl : e.1.length ≤ 9 := by
    have := he.1
    simp only [List.mem_cons, List.not_mem_nil, or_false] at this
    rcases this with h | h | h | h <;> rw [h] <;> decide
  exact EvP.yes (by omega) (EvP.now ⟨by show (c.1 ++ e.1).length ≤ 20; simp; omega, he.2.less (by omega)⟩)
theorem l4SomeG_ev (g : GramT) (hg : Gr 10 g) {m : Nat} {b : List Int} {p : Int} (hr : Rd (m + 100000) b p) : EvP (fun k => spec_l4Some k b p g.1 g.2) (fun r => r.1.length ≤ 1000000 ∧ Rd m r.2.1 r.2.2) := by
  have hg2 := hg.2.1
  have hs : ∀ y ∈ g.2, y.2.length ≤ 1000000 := fun y hy => by have := (hg.2.2 y hy).2; omega
  have hR : Rn 6 = 3906 := by decide
  have fin : ∀ {b : List Int} {p : Int}, Rd (m + 10) b p → EvP (fun k => spec_l4Some_L7 k (b, p)) (fun r => r.1.length ≤ 1000000 ∧ Rd m r.2.1 r.2.2) := fun hr => (l4SomeG_L7_ev hr).mono fun r hr => ⟨by have := hr.1; omega, hr.2⟩
  refine EvP.fn (fun k => spec_l4Some_eq k _ _ _ _) (EvP.bind (specGramOk_ev g hs) fun x hx => EvP.ite (fun _ => EvP.bind (pick_ev (m := m + 90000) (hr.less (by omega)) (by omega) (by omega)) fun a ha => EvP.dec (fun _ => EvP.bind (num_ev (m := m + 80000) (ha.2.2.less (by omega)) _ (by simp) (by simp)) fun c hc => ?_) (fun _ => fin (ha.2.2.less (by omega)))) (fun _ => fin (hr.less (by omega))))
  have hcd : c.1 ≤ 6 := by
    have := hc.1
    simp only [List.mem_cons, List.not_mem_nil, or_false] at this
    omega
  refine EvP.bind (any_ev g (hg.more (by omega)) 6 (by omega) (m := m + 10000) (hc.2.less (by omega)) g.1 hg.1 c.1 hcd) fun t ht => ?_
  have hsl : Slim 6 7 (Tr.mk t.1.1 t.1.2.1 t.1.2.2) := ht.1.more (by omega) (by omega)
  have hy := yield_le 7 _ hsl
  have hz := sz_le 7 _ hsl 7
  have h7 : 7 ^ 7 = 823543 := by decide
  refine EvP.bind (l3Yield_ev 7 (by omega) (Tr.mk t.1.1 t.1.2.1 t.1.2.2) hsl) fun y hyy => ?_
  subst hyy
  exact EvP.bind (specTextOk_ev _ (by omega)) fun o ho => EvP.ite (fun _ => EvP.now ⟨by show (yieldE _).length ≤ _; omega, ht.2.less (by omega)⟩) (fun _ => fin (ht.2.less (by omega)))
theorem l4Draw_ev (l : List Int) (h : ∀ x ∈ l, (Lit.int .u8 x).wf = true) : EvP (fun k => spec_l4Draw k l) (fun r => Gr 10 r.1 ∧ r.2.length ≤ 1000000) := by
  refine EvP.fn (fun k => spec_l4Draw_eq k _) (EvP.bind (open_ev l h) fun o ho => EvP.bind (gram_ev (m := 3000000) (ho.less (by omega))) fun a ha => EvP.bind (bentG_ev (m := 2000000) (ha.2.less (by omega)) 8 (by omega) (by omega) a.1 (ha.1.more (by omega))) fun c hc => ?_)
  exact EvP.bind (l4SomeG_ev c.1 (hc.1.more (by omega)) (m := 1000) (hc.2.less (by omega))) fun d hd => EvP.now ⟨hc.1.more (by omega), hd.1⟩
theorem drawAllIs_ev (l : List Int) (h : ∀ x ∈ l, (Lit.int .u8 x).wf = true) : EvP (fun k => spec_DrawAllIs k l) (fun r => Gr 10 r.1 ∧ r.2.length ≤ 1000000) :=
  EvP.fn (fun k => spec_DrawAllIs_eq k _) (EvP.bind (l4Draw_ev l h) fun x hx => EvP.now hx)
/-! charts kept anyhow -/
section
variable {X : Type} (M : X → Key → Bool)
def hasX (x : X) (c : UInt8) (i j : Nat) : Prop := M x ([c], (i : Int), (j : Int)) = true
def belX (x y : X) : Prop := ∀ z, M x z = true → M y z = true
def todoX (R : List Rl) (n : Nat) (x : X) : Nat := (keys R n).countP fun z => !M x z
theorem todoX_le (R : List Rl) (n : Nat) {x y : X} (h : belX M x y) : todoX M R n y ≤ todoX M R n x := by
  refine List.countP_mono_left fun z _ hz => ?_
  cases hv : M x z with
  | false => rfl
  | true => rw [h z hv] at hz; cases hz
theorem todoX_lt (R : List Rl) (n : Nat) {x y : X} (hb : belX M x y) {r : Rl} (hr : r ∈ R) {i j : Nat} (hi : i ≤ n) (hj : j ≤ n) (h : M x (r.1, (i : Int), (j : Int)) = false) (h' : M y (r.1, (i : Int), (j : Int)) = true) : todoX M R n y < todoX M R n x := by
  refine countP_lt _ _ (fun z hz => ?_) _ (r.1, (i : Int), (j : Int)) ?_ ?_ ?_
  · cases hv : M x z with
    | false => rfl
    | true => rw [hb z hv] at hz; cases hz
  · exact List.mem_flatMap.2 ⟨r, hr, List.mem_flatMap.2 ⟨i, List.mem_range.2 (by omega), List.mem_map.2 ⟨j, List.mem_range.2 (by omega), rfl⟩⟩⟩
  · rw [h']; rfl
  · rw [h]; rfl
def SndX (R : List Rl) (s : List UInt8) (x : X) : Prop := ∀ c i j, hasX M x c i j → Ders R s [c] i j
structure GwX (R : List Rl) (s : List UInt8) (ch : Bool) (x : X) (ch' : Bool) (y : X) : Prop where
  bel : belX M x y
  snd : SndX M R s y
  up : ch = true → ch' = true
  less : ch' = true → ch = true ∨ todoX M R s.length y < todoX M R s.length x
  same : ch' = false → y = x
variable {M}
theorem GwX.refl {R : List Rl} {s : List UInt8} {ch : Bool} {x : X} (h : SndX M R s x) : GwX M R s ch x ch x := ⟨fun _ h => h, h, id, .inl, fun _ => rfl⟩
theorem GwX.trans {R : List Rl} {s : List UInt8} {a b c : Bool} {x y z : X} (h : GwX M R s a x b y) (k : GwX M R s b y c z) : GwX M R s a x c z := by
  refine ⟨fun v hv => k.bel v (h.bel v hv), k.snd, fun e => k.up (h.up e), fun e => ?_, fun e => ?_⟩
  · rcases k.less e with hb | hl
    · rcases h.less hb with ha | hl
      · exact .inl ha
      · exact .inr (Nat.lt_of_le_of_lt (todoX_le M R s.length k.bel) hl)
    · exact .inr (Nat.lt_of_lt_of_le hl (todoX_le M R s.length h.bel))
  · have hb : b = false := by
      cases b with
      | false => rfl
      | true => rw [k.up rfl] at e; cases e
    rw [k.same e, h.same hb]
/-- One more part is found. -/
theorem GwX.put {R : List Rl} {s : List UInt8} {ch : Bool} {x y : X} (h : SndX M R s x) {r : Rl} (hr : r ∈ R) {c : UInt8} (hc : r.1 = [c]) (hs : small c = false) {i j : Nat} (hi : i ≤ s.length) (hj : j ≤ s.length)
    (hsp : split (hasX M x) s r.2 i j) (hno : M x (r.1, (i : Int), (j : Int)) = false) (hy : ∀ z, M y z = if z = (r.1, (i : Int), (j : Int)) then true else M x z) : GwX M R s ch x true y := by
  have hb : belX M x y := fun z hz => by
    rw [hy]; split
    · rfl
    · exact hz
  refine ⟨hb, fun d a b hd => ?_, fun _ => rfl, fun _ => .inr (todoX_lt M R s.length hb hr hi hj hno (by rw [hy, if_pos rfl])), fun h => by cases h⟩
  unfold hasX at hd
  rw [hy] at hd
  split at hd
  · rename_i e
    simp only [Prod.mk.injEq, hc, List.cons.injEq, and_true] at e
    obtain ⟨rfl, e1, e2⟩ := e
    obtain rfl : a = i := by omega
    obtain rfl : b = j := by omega
    exact .big d r.2 [] a b b hs (hc ▸ hr) (split_sound (fun c i j _ h' => h c i j h') hj hsp) (.nil b hj)
  · exact h d a b hd
theorem closedX_all {R : List Rl} {s : List UInt8} {x : X} (h : SndX M R s x) (hc : ∀ r ∈ R, ∀ i j, i ≤ j → j ≤ s.length → split (hasX M x) s r.2 i j → M x (r.1, (i : Int), (j : Int)) = true) (c : UInt8) (hs : small c = false) (i j : Nat) : hasX M x c i j ↔ Ders R s [c] i j :=
  ⟨h c i j, fun hd => ders_one (s := s) hs (split_all (fun d q a b hd' hq hab hb hsp => hc _ hq a b hab hb hsp) hd)⟩
end
/-! a cube of bools -/
abbrev Cube := List (List (List Bool))
def cget (x : Cube) (k i j : Nat) : Bool := ((x.getD k []).getD i []).getD j false
def cset (x : Cube) (k i j : Nat) : Cube := x.set k ((x.getD k []).set i (((x.getD k []).getD i []).set j true))
def cM (x : Cube) (z : Key) : Bool := match z.1 with | [c] => decide (65 ≤ c.toNat) && (decide (0 ≤ z.2.1) && (decide (0 ≤ z.2.2) && cget x (c.toNat - 65) z.2.1.toNat z.2.2.toNat)) | _ => false
def CubeN (n : Nat) (x : Cube) : Prop := x.length = 5 ∧ ∀ k, k < 5 → (x.getD k []).length = n ∧ ∀ i, i < n → ((x.getD k []).getD i []).length = n
theorem getD_set {α : Type} (l : List α) (i j : Nat) (a d : α) (hi : i < l.length) : (l.set i a).getD j d = if j = i then a else l.getD j d := by
  rw [List.getD_eq_getElem?_getD, List.getD_eq_getElem?_getD, List.getElem?_set]
  by_cases h : i = j
  · subst h; simp [hi]
  · rw [if_neg h, if_neg (fun e => h e.symm)]
theorem cget_cset {n : Nat} {x : Cube} (hx : CubeN n x) {k i j : Nat} (hk : k < 5) (hi : i < n) (hj : j < n) (a b c : Nat) : cget (cset x k i j) a b c = if a = k ∧ b = i ∧ c = j then true else cget x a b c := by
  unfold cget cset
  rw [getD_set _ _ _ _ _ (by rw [hx.1]; exact hk)]
  by_cases h1 : a = k
  · subst h1
    rw [if_pos rfl, getD_set _ _ _ _ _ (by rw [(hx.2 a hk).1]; exact hi)]
    by_cases h2 : b = i
    · subst h2
      rw [if_pos rfl, getD_set _ _ _ _ _ (by rw [(hx.2 a hk).2 b hi]; exact hj)]
      by_cases h3 : c = j
      · subst h3; simp
      · rw [if_neg h3, if_neg (fun h => h3 h.2.2)]
    · rw [if_neg h2, if_neg (fun h => h2 h.2.1)]
  · rw [if_neg h1, if_neg (fun h => h1 h.1)]
theorem cubeN_cset {n : Nat} {x : Cube} (hx : CubeN n x) {k i j : Nat} (hk : k < 5) (hi : i < n) : CubeN n (cset x k i j) := by
  refine ⟨by unfold cset; rw [List.length_set]; exact hx.1, fun a ha => ?_⟩
  unfold cset
  rw [getD_set _ _ _ _ _ (by rw [hx.1]; exact hk)]
  by_cases h1 : a = k
  · subst h1
    rw [if_pos rfl, List.length_set]
    refine ⟨(hx.2 a ha).1, fun b hb => ?_⟩
    rw [getD_set _ _ _ _ _ (by rw [(hx.2 a ha).1]; exact hi)]
    by_cases h2 : b = i
    · subst h2; rw [if_pos rfl, List.length_set]; exact (hx.2 a ha).2 b hb
    · rw [if_neg h2]; exact (hx.2 a ha).2 b hb
  · rw [if_neg h1]; exact hx.2 a ha
theorem cM_cset {n : Nat} {x : Cube} (hx : CubeN n x) {c : UInt8} (hc : big c = true) {i j : Nat} (hi : i < n) (hj : j < n) (z : Key) : cM (cset x (c.toNat - 65) i j) z = if z = ([c], (i : Int), (j : Int)) then true else cM x z := by
  unfold big at hc
  simp only [Bool.and_eq_true, decide_eq_true_eq] at hc
  obtain ⟨s, a, b⟩ := z
  match s with
  | [] => simp [cM]
  | _ :: _ :: _ => simp [cM]
  | [d] =>
    show (decide (65 ≤ d.toNat) && (decide (0 ≤ a) && (decide (0 ≤ b) && cget (cset x (c.toNat - 65) i j) (d.toNat - 65) a.toNat b.toNat))) = if ([d], a, b) = ([c], (i : Int), (j : Int)) then true else (decide (65 ≤ d.toNat) && (decide (0 ≤ a) && (decide (0 ≤ b) && cget x (d.toNat - 65) a.toNat b.toNat)))
    rw [cget_cset hx (by omega) hi hj]
    by_cases h1 : 65 ≤ d.toNat
    · by_cases h2 : 0 ≤ a
      · by_cases h3 : 0 ≤ b
        · have e : (d.toNat - 65 = c.toNat - 65 ∧ a.toNat = i ∧ b.toNat = j) ↔ (([d], a, b) = ([c], (i : Int), (j : Int))) := by
            simp only [Prod.mk.injEq, List.cons.injEq, and_true]
            constructor
            · rintro ⟨h, h', h''⟩
              exact ⟨UInt8.toNat_inj.1 (by omega), by omega, by omega⟩
            · rintro ⟨rfl, rfl, rfl⟩
              exact ⟨rfl, Int.toNat_natCast i, Int.toNat_natCast j⟩
          by_cases h : ([d], a, b) = ([c], (i : Int), (j : Int))
          · rw [if_pos h, if_pos (e.2 h)]; simp [h1, h2, h3]
          · rw [if_neg h, if_neg (fun h' => h (e.1 h'))]
        · have h : ¬ ([d], a, b) = ([c], (i : Int), (j : Int)) := fun h => h3 (by simp only [Prod.mk.injEq] at h; omega)
          rw [if_neg h]; simp [h3]
      · have h : ¬ ([d], a, b) = ([c], (i : Int), (j : Int)) := fun h => h2 (by simp only [Prod.mk.injEq] at h; omega)
        rw [if_neg h]; simp [h2]
    · have h : ¬ ([d], a, b) = ([c], (i : Int), (j : Int)) := fun h => h1 (by simp only [Prod.mk.injEq, List.cons.injEq, and_true] at h; rw [h.1]; omega)
      rw [if_neg h]; simp [h1]
/-! charts: spec -/
theorem big_range {c : UInt8} (h : big c = true) : 65 ≤ c.toNat ∧ c.toNat ≤ 69 := by
  unfold big at h
  simpa only [Bool.and_eq_true, decide_eq_true_eq] using h
theorem big_nsmall {c : UInt8} (h : big c = true) : small c = false := by
  have := big_range h
  unfold small
  simp only [Bool.and_eq_false_imp, decide_eq_true_eq, decide_eq_false_iff_not]
  omega
theorem e65 {c : UInt8} (h : big c = true) : IntKind.i64.wrap (IntKind.u8.wrap ((c.toNat : Int) - 65)) = ((c.toNat - 65 : Nat) : Int) := by
  have := big_range h
  rw [w8 (by omega) (by omega), w64 (by omega) (by omega)]
  omega
theorem cM_at {x : Cube} {c : UInt8} (h : big c = true) (i j : Nat) : cM x ([c], (i : Int), (j : Int)) = cget x (c.toNat - 65) i j := by
  have := big_range h
  show (decide (65 ≤ c.toNat) && (decide ((0 : Int) ≤ (i : Int)) && (decide ((0 : Int) ≤ (j : Int)) && cget x (c.toNat - 65) (i : Int).toNat (j : Int).toNat))) = _
  rw [decide_eq_true this.1, decide_eq_true (by omega), decide_eq_true (by omega), Int.toNat_natCast, Int.toNat_natCast]
  simp
theorem stepS_ev (s : List UInt8) (hs : s.length ≤ 8) (x : Cube) (hx : CubeN (s.length + 1) x) (c : UInt8) (hc : sign c = true) (i j : Nat) (hij : i ≤ j) (hj : j ≤ s.length) : EvP (fun k => spec_l4Step k x s ((c.toNat : Nat) : Int) (i : Int) (j : Int)) (fun r => r = true ↔ step (hasX cM x) s c i j) := by
  refine EvP.fn (fun k => spec_l4Step_eq k _ _ _ _ _) (EvP.bind (l1Small_ev c) fun b hb => ?_)
  subst hb
  rw [w64 (by omega) (by omega)]
  refine EvP.ite (fun hc => EvP.dec (fun he => EvP.yes (by omega) (EvP.yes (by omega) (EvP.now ?_))) (fun he => EvP.now ⟨fun h => (by cases h), fun h => ?_⟩)) (fun hns => ?_)
  · have he : j = i + 1 := by omega
    rw [Int.toNat_natCast, decide_eq_true_eq]
    refine ⟨fun h => .inl ⟨hc, he, ?_⟩, fun h => ?_⟩
    · rw [getD_some s i (by omega)]
      exact congrArg some (UInt8.toNat_inj.1 (by omega))
    · rcases h with ⟨_, _, h⟩ | ⟨h, _⟩
      · rw [getD_some s i (by omega)] at h; rw [Option.some.inj h]
      · rw [hc] at h; cases h
  · rcases h with ⟨_, h, _⟩ | ⟨h, _⟩
    · omega
    · rw [hc] at h; cases h
  · have hns : small c = false := by simpa using hns
    have hb : big c = true := by unfold sign at hc; rw [hns] at hc; simpa using hc
    have hr := big_range hb
    rw [e65 hb, Int.toNat_natCast, Int.toNat_natCast, Int.toNat_natCast]
    have h5 : c.toNat - 65 < 5 := by omega
    obtain ⟨c1, c2⟩ := hx.2 (c.toNat - 65) h5
    refine EvP.yes (by omega) (EvP.yes (by rw [hx.1]; omega) (EvP.yes (by omega) (EvP.yes (by rw [c1]; omega) (EvP.yes (by omega) (EvP.yes (by rw [c2 i (by omega)]; omega) (EvP.now ?_))))))
    have e := cM_at (x := x) hb i j
    refine ⟨fun h => .inr ⟨hns, e.trans h⟩, fun h => ?_⟩
    rcases h with ⟨h, _⟩ | ⟨_, h⟩
    · rw [hns] at h; cases h
    · exact e.symm.trans h
def EndsP (s : List UInt8) (x : Cube) (l : List UInt8) (i : Nat) (r : List Int) : Prop :=
  r.length ≤ 9 ^ l.length ∧ (∀ e ∈ r, ∃ m : Nat, e = m ∧ m ≤ s.length ∧ split (hasX cM x) s l i m) ∧ ∀ m : Nat, m ≤ s.length → split (hasX cM x) s l i m → (m : Int) ∈ r
theorem split_step_le {C : UInt8 → Nat → Nat → Prop} {s : List UInt8} {l : List UInt8} {i j : Nat} (h : split C s l i j) : i ≤ j := split_le h
theorem ends_ev (s : List UInt8) (hs : s.length ≤ 8) (x : Cube) (hx : CubeN (s.length + 1) x) : ∀ (l : List UInt8), l.length ≤ 4 → l.all sign = true → ∀ (i : Nat), i ≤ s.length → EvP (fun k => spec_l4Ends k x s l (i : Int)) (EndsP s x l i)
  | [], _, _, i, hi => EvP.fn (fun k => spec_l4Ends_eq k _ _ _ _) (EvP.decY rfl (EvP.now ⟨Nat.le_refl _, fun e he => ⟨i, List.mem_singleton.1 he, hi, rfl⟩, fun m hm h => by
      have h : i = m := h
      rw [h]; exact List.mem_singleton.2 rfl⟩))
  | c :: l, hl, hsg, i, hi => by
    have hl : l.length + 1 ≤ 4 := hl
    rw [List.all_cons, Bool.and_eq_true] at hsg
    have e2 : List.drop (Int.toNat (1 : Int)) (List.take (((c :: l).length : Nat) : Int).toNat (c :: l)) = l := by
      rw [Int.toNat_natCast, List.take_of_length_le (Nat.le_refl _)]; rfl
    have h9 : 9 ^ l.length ≤ 9 ^ 4 := Nat.pow_le_pow_right (by omega) (by omega)
    have h94 : 9 ^ 4 = 6561 := by decide
    have e9 : 9 ^ (c :: l).length = 9 ^ l.length * 9 := Nat.pow_succ _ _
    -- the rest is copied behind what there is
    have copy : ∀ {P : List Int → Prop} (rest : List Int) (m : Nat), rest.length ≤ 9 ^ l.length → m ≤ s.length → (∀ acc : List Int, True) → ∀ (q t : Nat), t + q = rest.length → ∀ (acc : List Int), acc.length + q ≤ 1000000 → EvP (fun k => spec_l4Ends_L122 k x s (c :: l) (i : Int) (acc ++ rest.drop t) ((m + 1 : Nat) : Int)) P → EvP (fun k => spec_l4Ends_L31310 k x s (c :: l) (i : Int) acc (m : Int) rest (t : Int)) P := by
      intro P rest m hrest hm _ q
      induction q with
      | zero =>
        intro t ht acc hacc hn
        refine EvP.fn (fun k => spec_l4Ends_L31310_eq k _ _ _ _ _ _ _ _) (EvP.decN (by omega) ?_)
        rw [w64 (by omega) (by omega)]
        rw [List.drop_eq_nil_of_le (by omega), List.append_nil] at hn
        exact hn
      | succ q ih =>
        intro t ht acc hacc hn
        refine EvP.fn (fun k => spec_l4Ends_L31310_eq k _ _ _ _ _ _ _ _) (EvP.decY (by omega) (EvP.yes (by omega) (EvP.yes (by omega) (EvP.yes (mG (by show acc.length + 1 ≤ _; omega)) ?_))))
        rw [Int.toNat_natCast, w64 (by omega) (by omega)]
        refine ih (t + 1) (by omega) _ (by rw [List.length_append]; show acc.length + 1 + q ≤ _; omega) ?_
        rw [drop_cons rest t 0 (by omega)] at hn
        rw [List.append_assoc]; exact hn
    have loop : ∀ (q m : Nat), m + q = s.length + 1 → i ≤ m → ∀ (acc : List Int), acc.length ≤ m * 9 ^ l.length → (∀ e ∈ acc, ∃ m : Nat, e = m ∧ m ≤ s.length ∧ split (hasX cM x) s (c :: l) i m) → (∀ m' e : Nat, i ≤ m' → m' < m → step (hasX cM x) s c i m' → split (hasX cM x) s l m' e → e ≤ s.length → (e : Int) ∈ acc) →
        EvP (fun k => spec_l4Ends_L122 k x s (c :: l) (i : Int) acc (m : Int)) (EndsP s x (c :: l) i) := by
      intro q
      induction q with
      | zero =>
        intro m hm him acc ha hgood hall
        refine EvP.fn (fun k => spec_l4Ends_L122_eq k _ _ _ _ _ _) (EvP.decN (by omega) (EvP.now ⟨?_, hgood, fun e he hsp => ?_⟩))
        · rw [e9]
          have : m * 9 ^ l.length ≤ 9 * 9 ^ l.length := Nat.mul_le_mul_right _ (by omega)
          omega
        · obtain ⟨m', h1, h2, h3, h4⟩ := hsp
          exact hall m' e h1 (by omega) h3 h4 he
      | succ q ih =>
        intro m hm him acc ha hgood hall
        have hml : m ≤ s.length := by omega
        have hmm : m * 9 ^ l.length ≤ 8 * 9 ^ l.length := Nat.mul_le_mul_right _ (by omega)
        have ew : IntKind.i64.wrap ((m : Int) + 1) = ((m + 1 : Nat) : Int) := w64 (by omega) (by omega)
        have es : (m + 1) * 9 ^ l.length = m * 9 ^ l.length + 9 ^ l.length := Nat.succ_mul _ _
        refine EvP.fn (fun k => spec_l4Ends_L122_eq k _ _ _ _ _ _) (EvP.decY (by omega) (EvP.yes (by omega) (EvP.yes (by rw [List.length_cons]; omega) ?_)))
        refine EvP.bind (stepS_ev s hs x hx c hsg.1 i m him hml) fun b hb => EvP.ite (fun hno => ?_) (fun hyes => ?_)
        · rw [ew]
          have hno : b = false := by simpa using hno
          refine ih (m + 1) (by omega) (by omega) acc (by omega) hgood fun m' e h1 h2 h3 h4 h5 => ?_
          rcases Nat.lt_or_ge m' m with h | h
          · exact hall m' e h1 h h3 h4 h5
          · obtain rfl : m' = m := by omega
            have := hb.2 h3; rw [hno] at this; cases this
        · have hyes : b = true := by simpa using hyes
          have hst := hb.1 hyes
          rw [e2]
          refine EvP.yes (by omega) (EvP.yes (by rw [List.length_cons]; omega) (EvP.yes (by omega) (EvP.bind (ends_ev s hs x hx l (by omega) hsg.2 m hml) fun rest hr => ?_)))
          refine copy rest m hr.1 hml (fun _ => trivial) rest.length 0 (Nat.zero_add _) acc (by have := hr.1; omega) ?_
          rw [List.drop_zero]
          refine ih (m + 1) (by omega) (by omega) _ (by rw [List.length_append]; have := hr.1; omega) (fun e he => ?_) fun m' e h1 h2 h3 h4 h5 => ?_
          · rcases List.mem_append.1 he with he | he
            · exact hgood e he
            · obtain ⟨m2, h1, h2, h3⟩ := hr.2.1 e he
              exact ⟨m2, h1, h2, m, him, split_le h3, hst, h3⟩
          · rcases Nat.lt_or_ge m' m with h | h
            · exact List.mem_append_left _ (hall m' e h1 h h3 h4 h5)
            · obtain rfl : m' = m := by omega
              exact List.mem_append_right _ (hr.2.2 e h5 h4)
    exact EvP.fn (fun k => spec_l4Ends_eq k _ _ _ _) (EvP.decN (by simp) (loop (s.length + 1 - i) i (by omega) (Nat.le_refl _) [] (Nat.zero_le _) (fun e he => by cases he) (fun m' e h1 h2 => by omega)))
def Fine (R : List Rl) : Prop := ∀ x ∈ R, (∃ c, x.1 = [c] ∧ big c = true) ∧ x.2.length ≤ 4 ∧ x.2.all sign = true
def ChartS (g : GramT) (s : List UInt8) (x : Cube) : Prop := CubeN (s.length + 1) x ∧ SndX cM g.2 s x ∧ ∀ r ∈ g.2, ∀ i j, i ≤ j → j ≤ s.length → split (hasX cM x) s r.2 i j → cM x (r.1, (i : Int), (j : Int)) = true
section
variable {g : GramT} {s : List UInt8} {x0 : Cube}
theorem inner_chart (hR : Fine g.2) (hg : g.2.length ≤ 1000) (hs : s.length ≤ 8) {i : Nat} (hi : i < g.2.length) {c : UInt8} (hc : (g.2.getD i ([], [])).1 = [c]) (hb : big c = true) {f : Nat} (hf : f ≤ s.length) (es : List Int) (hel : es.length ≤ 6561) (xc : Cube)
    (hes : ∀ e ∈ es, ∃ m : Nat, e = m ∧ m ≤ s.length ∧ split (hasX cM xc) s (g.2.getD i ([], [])).2 f m) (D : Prop) {P : Cube → Prop}
    (nx : ∀ x ch, GwX cM g.2 s false x0 ch x → CubeN (s.length + 1) x → (ch = false → D ∧ ∀ e ∈ es, cM x0 ([c], (f : Int), e) = true) → EvP (fun k => spec_l4Chart_L2067238 k s g ((s.length + 1 : Nat) : Int) x ch (i : Int) ((c.toNat - 65 : Nat) : Int) ((f + 1 : Nat) : Int)) P) :
    ∀ (n q : Nat), q + n = es.length → ∀ x ch, GwX cM g.2 s false x0 ch x → CubeN (s.length + 1) x → belX cM xc x → (ch = false → D ∧ ∀ e ∈ es.take q, cM x0 ([c], (f : Int), e) = true) → EvP (fun k => spec_l4Chart_L264606502 k s g ((s.length + 1 : Nat) : Int) x ch (i : Int) ((c.toNat - 65 : Nat) : Int) (f : Int) es (q : Int)) P
  | 0, q, h, x, ch, hw, hx, hbel, hd => by
    refine EvP.fn (fun k => spec_l4Chart_L264606502_eq k _ _ _ _ _ _ _ _ _ _) (EvP.decN (by omega) ?_)
    rw [w64 (by omega) (by omega)]
    rw [List.take_of_length_le (by omega)] at hd
    exact nx x ch hw hx hd
  | n + 1, q, h, x, ch, hw, hx, hbel, hd => by
    have hr := big_range hb
    have hm := getD_mem es q 0 (by omega)
    obtain ⟨m, he, hml, hsp⟩ := hes _ hm
    have h5 : c.toNat - 65 < 5 := by omega
    obtain ⟨c1, c2⟩ := hx.2 (c.toNat - 65) h5
    have e : es.take (q + 1) = es.take q ++ [es.getD q 0] := by
      rw [List.take_add_one, List.getD_eq_getElem?_getD, List.getElem?_eq_getElem (show q < es.length by omega)]; rfl
    have ew : IntKind.i64.wrap ((q : Int) + 1) = ((q + 1 : Nat) : Int) := w64 (by omega) (by omega)
    have y1 : (0 : Int) ≤ ((c.toNat - 65 : Nat) : Int) := by omega
    have y2 : ((c.toNat - 65 : Nat) : Int) < (x.length : Int) := by rw [hx.1]; omega
    have y3 : (f : Int) < (((x.getD (c.toNat - 65) []).length : Nat) : Int) := by rw [c1]; omega
    have y4 : (m : Int) < ((((x.getD (c.toNat - 65) []).getD f []).length : Nat) : Int) := by rw [c2 f (by omega)]; omega
    have y5 : (q : Int) < (es.length : Int) := by omega
    refine EvP.fn (fun k => spec_l4Chart_L264606502_eq k _ _ _ _ _ _ _ _ _ _) (EvP.decY y5 ?_)
    rw [Int.toNat_natCast, Int.toNat_natCast, Int.toNat_natCast, he, Int.toNat_natCast, ew]
    refine EvP.yes y1 (EvP.yes y2 (EvP.yes (by omega) (EvP.yes y3 (EvP.yes (by omega) (EvP.yes y5 (EvP.yes (by omega) (EvP.yes y4 (EvP.ite (fun hno => ?_) (fun hyes => ?_)))))))))
    · have hno : cM x ([c], (f : Int), (m : Int)) = false := by
        rw [cM_at hb]
        have hno : (!cget x (c.toNat - 65) f m) = true := hno
        simpa using hno
      refine EvP.yes y1 (EvP.yes y2 (EvP.yes (by omega) (EvP.yes y3 (EvP.yes (by omega) (EvP.yes y5 (EvP.yes (by omega) (EvP.yes y4 ?_)))))))
      have hput : GwX cM g.2 s ch x true (cset x (c.toNat - 65) f m) := GwX.put hw.snd (getD_mem g.2 i ([], []) hi) hc (big_nsmall hb) hf hml (split_mono (fun d a b hh => hbel _ hh) hsp) (by rw [hc]; exact hno) (fun z => by rw [hc]; exact cM_cset hx hb (by omega) (by omega) z)
      exact inner_chart hR hg hs hi hc hb hf es hel xc hes D nx n (q + 1) (by omega) _ true (hw.trans hput) (cubeN_cset hx h5 (by omega)) (fun z hz => hput.bel z (hbel z hz)) (fun h => by cases h)
    · have hyes : cM x ([c], (f : Int), (m : Int)) = true := by
        rw [cM_at hb]
        have hyes : ¬ (!cget x (c.toNat - 65) f m) = true := hyes
        simpa using hyes
      refine inner_chart hR hg hs hi hc hb hf es hel xc hes D nx n (q + 1) (by omega) x ch hw hx hbel fun hch => ⟨(hd hch).1, fun v hv => ?_⟩
      rw [e] at hv
      rcases List.mem_append.1 hv with hv | hv
      · exact (hd hch).2 v hv
      · rw [List.mem_singleton.1 hv, he, ← hw.same hch]; exact hyes
theorem from_chart (hR : Fine g.2) (hg : g.2.length ≤ 1000) (hs : s.length ≤ 8) {i : Nat} (hi : i < g.2.length) {c : UInt8} (hc : (g.2.getD i ([], [])).1 = [c]) (hb : big c = true) (D : Prop) {P : Cube → Prop}
    (nx : ∀ x ch, GwX cM g.2 s false x0 ch x → CubeN (s.length + 1) x → (ch = false → D ∧ ∀ a b : Nat, a ≤ s.length → b ≤ s.length → split (hasX cM x0) s (g.2.getD i ([], [])).2 a b → cM x0 ([c], (a : Int), (b : Int)) = true) → EvP (fun k => spec_l4Chart_L16150 k s g ((s.length + 1 : Nat) : Int) x ch ((i + 1 : Nat) : Int)) P) :
    ∀ (n f : Nat), f + n = s.length + 1 → ∀ x ch, GwX cM g.2 s false x0 ch x → CubeN (s.length + 1) x → (ch = false → D ∧ ∀ a b : Nat, a < f → b ≤ s.length → split (hasX cM x0) s (g.2.getD i ([], [])).2 a b → cM x0 ([c], (a : Int), (b : Int)) = true) → EvP (fun k => spec_l4Chart_L2067238 k s g ((s.length + 1 : Nat) : Int) x ch (i : Int) ((c.toNat - 65 : Nat) : Int) (f : Int)) P
  | 0, f, h, x, ch, hw, hx, hd => by
    refine EvP.fn (fun k => spec_l4Chart_L2067238_eq k _ _ _ _ _ _ _ _) (EvP.decN (by omega) ?_)
    rw [w64 (by omega) (by omega)]
    exact nx x ch hw hx fun hch => ⟨(hd hch).1, fun a b ha hb' hsp => (hd hch).2 a b (by omega) hb' hsp⟩
  | n + 1, f, h, x, ch, hw, hx, hd => by
    obtain ⟨_, hl4, hsg⟩ := hR _ (getD_mem g.2 i ([], []) hi)
    refine EvP.fn (fun k => spec_l4Chart_L2067238_eq k _ _ _ _ _ _ _ _) (EvP.decY (by omega) (EvP.yes (by omega) (EvP.yes (by omega) ?_)))
    rw [Int.toNat_natCast]
    refine EvP.bind (ends_ev s hs x hx _ hl4 hsg f (by omega)) fun es hes => ?_
    have hel : es.length ≤ 6561 := Nat.le_trans hes.1 (Nat.le_trans (Nat.pow_le_pow_right (by omega) hl4) (by decide))
    refine inner_chart hR hg hs hi hc hb (by omega) es hel x hes.2.1 ((D ∧ ∀ a b : Nat, a < f → b ≤ s.length → split (hasX cM x0) s (g.2.getD i ([], [])).2 a b → cM x0 ([c], (a : Int), (b : Int)) = true) ∧ x = x0) (fun x' ch' hw' hx' hd' => from_chart hR hg hs hi hc hb D nx n (f + 1) (by omega) x' ch' hw' hx' fun hch => ⟨(hd' hch).1.1.1, fun a b ha hb' hsp => ?_⟩) es.length 0 (Nat.zero_add _) x ch hw hx (fun _ h => h) (fun hch => ⟨⟨hd hch, hw.same hch⟩, fun e he => by cases he⟩)
    rcases Nat.lt_or_ge a f with h' | h'
    · exact (hd' hch).1.1.2 a b h' hb' hsp
    · obtain rfl : a = f := by omega
      rw [← (hd' hch).1.2] at hsp
      exact (hd' hch).2 _ (hes.2.2 b hb' hsp)
theorem rulesS_chart (hR : Fine g.2) (hg : g.2.length ≤ 1000) (hs : s.length ≤ 8) {P : Cube → Prop}
    (nx : ∀ x ch, GwX cM g.2 s false x0 ch x → CubeN (s.length + 1) x → (ch = false → ∀ r ∈ g.2, ∀ a b : Nat, a ≤ s.length → b ≤ s.length → split (hasX cM x0) s r.2 a b → cM x0 (r.1, (a : Int), (b : Int)) = true) → EvP (fun k => spec_l4Chart_L252 k s g ((s.length + 1 : Nat) : Int) x ch) P) :
    ∀ (n i : Nat), i + n = g.2.length → ∀ x ch, GwX cM g.2 s false x0 ch x → CubeN (s.length + 1) x → (ch = false → ∀ r ∈ g.2.take i, ∀ a b : Nat, a ≤ s.length → b ≤ s.length → split (hasX cM x0) s r.2 a b → cM x0 (r.1, (a : Int), (b : Int)) = true) → EvP (fun k => spec_l4Chart_L16150 k s g ((s.length + 1 : Nat) : Int) x ch (i : Int)) P
  | 0, i, h, x, ch, hw, hx, hd => by
    rw [List.take_of_length_le (by omega)] at hd
    exact EvP.fn (fun k => spec_l4Chart_L16150_eq k _ _ _ _ _ _) (EvP.decN (by omega) (nx x ch hw hx hd))
  | n + 1, i, h, x, ch, hw, hx, hd => by
    have hi : i < g.2.length := by omega
    obtain ⟨⟨c, hc, hb⟩, _, _⟩ := hR _ (getD_mem g.2 i ([], []) hi)
    have e : g.2.take (i + 1) = g.2.take i ++ [g.2.getD i ([], [])] := by
      rw [List.take_add_one, List.getD_eq_getElem?_getD, List.getElem?_eq_getElem hi]; rfl
    have e1 : List.getD (g.2.getD i ([], [])).1 (Int.toNat 0) 0 = c := by rw [hc]; rfl
    refine EvP.fn (fun k => spec_l4Chart_L16150_eq k _ _ _ _ _ _) (EvP.decY (by omega) (EvP.yes (by omega) (EvP.yes (by omega) (EvP.yes (by omega) ?_))))
    rw [Int.toNat_natCast, e1, e65 hb]
    refine EvP.yes (by rw [hc]; show (0 : Int) < 1; omega) ?_
    refine from_chart hR hg hs hi hc hb (∀ r ∈ g.2.take i, ∀ a b : Nat, a ≤ s.length → b ≤ s.length → split (hasX cM x0) s r.2 a b → cM x0 (r.1, (a : Int), (b : Int)) = true) (fun x' ch' hw' hx' hd' => rulesS_chart hR hg hs nx n (i + 1) (by omega) x' ch' hw' hx' fun hch r hr a b ha hb' hsp => ?_) (s.length + 1) 0 (Nat.zero_add _) x ch hw hx (fun hch => ⟨hd hch, fun a b ha => by omega⟩)
    rw [e] at hr
    rcases List.mem_append.1 hr with hr | hr
    · exact (hd' hch).1 r hr a b ha hb' hsp
    · rw [List.mem_singleton.1 hr] at hsp ⊢
      rw [hc]
      exact (hd' hch).2 a b ha hb' hsp
theorem whileS_chart (hR : Fine g.2) (hg : g.2.length ≤ 1000) (hs : s.length ≤ 8) : ∀ (n : Nat) (x : Cube), SndX cM g.2 s x → CubeN (s.length + 1) x → todoX cM g.2 s.length x < n → EvP (fun k => spec_l4Chart_L252 k s g ((s.length + 1 : Nat) : Int) x true) (ChartS g s) := by
  intro n
  induction n with
  | zero => intro x _ _ h; exact absurd h (Nat.not_lt_zero _)
  | succ n ih =>
    intro x hsn hx hn
    refine EvP.fn (fun k => spec_l4Chart_L252_eq k _ _ _ _ _) (EvP.yes rfl ?_)
    refine rulesS_chart (x0 := x) (P := ChartS g s) hR hg hs (fun x' ch' hw hx' hd => ?_) g.2.length 0 (Nat.zero_add _) x false (GwX.refl hsn) hx (fun _ r hr => by cases hr)
    cases ch' with
    | true =>
      rcases hw.less rfl with h | h
      · cases h
      · exact ih x' hw.snd hx' (by omega)
    | false =>
      have e := hw.same rfl
      exact EvP.fn (fun k => spec_l4Chart_L252_eq k _ _ _ _ _) (EvP.no (by simp) (EvP.now ⟨hx', hw.snd, fun r hr i j hij hj hsp => by rw [e] at hsp ⊢; exact hd rfl r hr i j (by omega) hj hsp⟩))
end
theorem getD_rep {α : Type} (n i : Nat) (a d : α) : (List.replicate n a).getD i d = if i < n then a else d := by
  rw [List.getD_eq_getElem?_getD, List.getElem?_replicate]
  by_cases h : i < n <;> simp [h]
abbrev blank (n : Nat) : Cube := List.replicate 5 (List.replicate n (List.replicate n false))
theorem blank_ok (n : Nat) : CubeN n (blank n) := by
  refine ⟨List.length_replicate, fun k hk => ?_⟩
  rw [getD_rep, if_pos hk]
  refine ⟨List.length_replicate, fun i hi => ?_⟩
  rw [getD_rep, if_pos hi]
  exact List.length_replicate
theorem blank_get (n k i j : Nat) : cget (blank n) k i j = false := by
  unfold cget
  rw [getD_rep]
  by_cases h1 : k < 5
  · rw [if_pos h1, getD_rep]
    by_cases h2 : i < n
    · rw [if_pos h2, getD_rep]; split <;> rfl
    · rw [if_neg h2]; rfl
  · rw [if_neg h1]; rfl
theorem blank_snd (R : List Rl) (s : List UInt8) (n : Nat) : SndX cM R s (blank n) := fun c i j h => by
  unfold hasX cM at h
  dsimp only at h
  rw [blank_get] at h
  simp at h
theorem l4Chart_ev (g : GramT) (s : List UInt8) (hR : Fine g.2) (hg : g.2.length ≤ 1000) (hs : s.length ≤ 8) : EvP (fun k => spec_l4Chart k g.1 g.2 s) (ChartS g s) := by
  have rows : ∀ {P : Cube → Prop} (x : Cube) (a : Nat), x.length ≤ 5 → a ≤ 5 → EvP (fun k => spec_l4Chart_L122 k s g ((s.length + 1 : Nat) : Int) (x ++ [List.replicate (s.length + 1) (List.replicate (s.length + 1) false)]) ((a + 1 : Nat) : Int)) P →
      ∀ (q i : Nat), i + q = s.length + 1 → EvP (fun k => spec_l4Chart_L31306 k s g ((s.length + 1 : Nat) : Int) x (a : Int) (List.replicate i (List.replicate (s.length + 1) false)) (i : Int)) P := by
    intro P x a hx5 ha nx q
    induction q with
    | zero =>
      intro i hi
      obtain rfl : i = s.length + 1 := by omega
      refine EvP.fn (fun k => spec_l4Chart_L31306_eq k _ _ _ _ _ _ _) (EvP.decN (by omega) (EvP.yes (mG (by show x.length + 1 ≤ _; omega)) ?_))
      rw [w64 (by omega) (by omega)]
      exact nx
    | succ q ih =>
      intro i hi
      have hm : ((s.length + 1 : Nat) : Int) < ((maxLenE : Nat) : Int) := by unfold maxLenE; omega
      refine EvP.fn (fun k => spec_l4Chart_L31306_eq k _ _ _ _ _ _ _) (EvP.decY (by omega) (EvP.yes rfl (EvP.yes (by omega) (EvP.yes hm (EvP.yes (mG (by rw [List.length_replicate]; show i + 1 ≤ _; omega)) ?_)))))
      rw [Int.toNat_natCast, w64 (by omega) (by omega)]
      have := ih (i + 1) (by omega)
      rw [List.replicate_succ'] at this
      exact this
  have all : ∀ (q a : Nat), a + q = 5 → EvP (fun k => spec_l4Chart_L122 k s g ((s.length + 1 : Nat) : Int) (List.replicate a (List.replicate (s.length + 1) (List.replicate (s.length + 1) false))) (a : Int)) (ChartS g s) := by
    intro q
    induction q with
    | zero =>
      intro a ha
      obtain rfl : a = 5 := by omega
      exact EvP.fn (fun k => spec_l4Chart_L122_eq k _ _ _ _ _) (EvP.decN (by omega) (whileS_chart hR hg hs _ (blank (s.length + 1)) (blank_snd _ _ _) (blank_ok _) (Nat.lt_succ_self _)))
    | succ q ih =>
      intro a ha
      refine EvP.fn (fun k => spec_l4Chart_L122_eq k _ _ _ _ _) (EvP.decY (by omega) (rows _ a (by rw [List.length_replicate]; omega) (by omega) ?_ (s.length + 1) 0 (Nat.zero_add _)))
      have := ih (a + 1) (by omega)
      rw [List.replicate_succ'] at this
      exact this
  refine EvP.fn (fun k => spec_l4Chart_eq k _ _ _) ?_
  rw [w64 (by omega) (by omega)]
  exact all 5 0 rfl
theorem fine_of {g : GramT} (h : GramOkP g) : Fine g.2 := by
  intro x hx
  obtain ⟨j, hj, rfl⟩ := List.mem_iff_getElem.1 hx
  have := (h.2.2 j hj).1
  rw [List.getD_eq_getElem?_getD, List.getElem?_eq_getElem hj] at this
  have this : ruleOk g.2[j] = true := this
  unfold ruleOk at this
  simp only [Bool.and_eq_true, decide_eq_true_eq] at this
  obtain ⟨h1, h2, h3⟩ := this
  refine ⟨?_, h3, h2⟩
  match hx : g.2[j].1, h1 with
  | [c], h1 => exact ⟨c, rfl, h1⟩
theorem l4Is_ev (g : GramT) (s : List UInt8) (hok : GramOkP g) (hs : s.length ≤ 8) : EvP (fun k => spec_l4Is k g.1 g.2 s) (fun r => r = true ↔ Ders g.2 s g.1 0 s.length) := by
  have hg := hok.2.1
  refine EvP.fn (fun k => spec_l4Is_eq k _ _ _) (EvP.bind (l4Chart_ev g s (fine_of hok) (by omega) hs) fun x hx => ?_)
  obtain ⟨h1, h2, h3⟩ := hx
  have hb := hok.1
  match hg1 : g.1, hb with
  | [c], hb =>
    have hb : big c = true := hb
    have hr := big_range hb
    have e1 : List.getD [c] (Int.toNat 0) 0 = c := rfl
    rw [e1, e65 hb, Int.toNat_natCast, Int.toNat_natCast]
    have h5 : c.toNat - 65 < 5 := by omega
    obtain ⟨c1, c2⟩ := h1.2 (c.toNat - 65) h5
    refine EvP.yes (by omega) (EvP.yes (by show (0 : Int) < 1; omega) (EvP.yes (by omega) (EvP.yes (by rw [h1.1]; omega) (EvP.yes (by omega) (EvP.yes (by rw [c1]; omega) (EvP.yes (by omega) (EvP.yes ?_ (EvP.now ?_))))))))
    · have := c2 0 (by omega)
      show (s.length : Int) < ((((x.getD (c.toNat - 65) []).getD 0 []).length : Nat) : Int)
      rw [this]; omega
    · rw [← closedX_all h2 h3 c (big_nsmall hb) 0 s.length]
      have e := cM_at (x := x) hb 0 s.length
      unfold hasX
      rw [e]; exact Iff.rfl
theorem specAll_ev (g : GramT) (hs : ∀ x ∈ g.2, x.2.length ≤ 1000000) (s : List UInt8) (hl : s.length ≤ 1000000) : EvP (fun k => spec_AllIs k g.1 g.2 s) (fun r => r = true ↔ AllP g s) := by
  refine EvP.fn (fun k => spec_AllIs_eq k _ _ _) (EvP.bind (specGramOk_ev g hs) fun b hb => EvP.ite (fun h => EvP.bind (specTextOk_ev s (by omega)) fun c hc => EvP.ite (fun h2 => ?_) (fun h2 => EvP.now ?_)) (fun h => EvP.now ?_))
  · have h1 := hb.1 h
    rw [hc] at h2
    have hl : s.length ≤ 8 := by
      have := h2
      unfold textOk at this
      simp only [Bool.and_eq_true, decide_eq_true_eq] at this
      exact this.2
    refine EvP.bind (l4Is_ev g s h1 hl) fun d hd => EvP.now ?_
    rw [hd]; exact ⟨fun h' => ⟨h1, h2, h'⟩, fun h' => h'.2.2⟩
  · rw [hc] at h2
    exact ⟨fun h => (by cases h), fun h' => absurd h'.2.1 h2⟩
  · exact ⟨fun h => (by cases h), fun h' => absurd (hb.2 h'.1) h⟩
/-! texts behind each other are derivable -/
theorem two_all {g : GramT} {s t : List UInt8} (h : AllP g s) (h' : AllP g t) (hx : GramOkP ([69], g.2 ++ [([69], g.1 ++ g.1)])) (ht : textOk (s ++ t) = true) : AllP ([69], g.2 ++ [([69], g.1 ++ g.1)]) (s ++ t) := by
  refine ⟨hx, ht, ?_⟩
  have hsub : ∀ y ∈ g.2, y ∈ g.2 ++ [([69], g.1 ++ g.1)] := fun y hy => List.mem_append_left _ hy
  have a1 := (h.2.2.more hsub).put [] t
  have a2 := (h'.2.2.more hsub).put s []
  rw [List.append_nil] at a2
  rw [List.nil_append] at a1
  have e1 : (([] : List UInt8).length + 0) = 0 := rfl
  have e2 : (([] : List UInt8).length + s.length) = s.length + 0 := by simp
  rw [e1, e2] at a1
  have h3 := a1.append a2
  have hl : s.length + t.length = (s ++ t).length := (List.length_append).symm
  rw [hl] at h3
  exact .big 69 (g.1 ++ g.1) [] 0 _ _ (by decide) (List.mem_append_right _ (List.mem_singleton.2 rfl)) h3 (.nil _ (Nat.le_refl _))
theorem law_ev (l m : List Int) (h : ∀ x ∈ l, (Lit.int .u8 x).wf = true) (hm : ∀ x ∈ m, (Lit.int .u8 x).wf = true) : EvP (fun k => laws_FnAllTwo k l m) (fun r => r = true) := by
  refine EvP.fn (fun k => laws_FnAllTwo_eq k _ _) (EvP.decF (fun _ => EvP.dec (fun _ => EvP.now rfl) (fun _ => EvP.bind (drawAllIs_ev l h) fun x hx => EvP.bind (drawAllIs_ev m hm) fun y hy => ?_)) (fun _ => EvP.now rfl))
  obtain ⟨hg, hl⟩ := hx
  have hyl := hy.2
  have hg2 := hg.2.1
  have hg1 := hg.1
  have hs : ∀ y ∈ x.1.2, y.2.length ≤ 1000000 := fun y hy => by have := (hg.2.2 y hy).2; omega
  have ne : ∀ {p q : Bool} {P : Prop}, (p = true ↔ P) → (q = true ↔ P) → p = q := fun {p q P} h h' => by
    cases p <;> cases q <;> simp_all
  have sv := specAll_ev x.1 hs x.2 hl
  refine EvP.yes (mG (by omega)) (EvP.yes (by omega) (EvP.yes (mG (by show x.1.2.length + 1 ≤ _; omega)) (EvP.bind (implAll_ev x.1 x.2) fun p1 h1 => ?_)))
  have same : EvP (fun k => (spec_AllIs k x.1.1 x.1.2 x.2).bind fun y => some (decide (p1 = y))) (fun r => r = true) := EvP.bind sv fun q hq => EvP.now (decide_eq_true (ne h1 hq))
  refine EvP.bind sv fun p2 h2 => EvP.ite (fun _ => EvP.ite (fun h3 => EvP.bind (implAll_ev x.1 y.2) fun p4 h4 => EvP.ite (fun h5 => EvP.bind (implGramOk_ev ([69], x.1.2 ++ [([69], x.1.1 ++ x.1.1)])) fun p5 h6 => EvP.ite (fun h7 => EvP.yes (by omega) (EvP.bind (implTextOk_ev (x.2 ++ y.2)) fun p6 h8 => EvP.ite (fun _ => same) (fun h9 => EvP.yes (by omega) ?_))) (fun _ => same)) (fun _ => same)) (fun _ => same)) (fun _ => same)
  have h3 : p1 = true := by simpa using h3
  have h5 : p4 = true := by simpa using h5
  have h7 : p5 = true := by simpa using h7
  have h9 : p6 = true := by simpa using h9
  exact EvP.bind (implAll_ev ([69], x.1.2 ++ [([69], x.1.1 ++ x.1.1)]) (x.2 ++ y.2)) fun c hc => EvP.now (hc.2 (two_all (h1.1 h3) (h4.1 h5) (h6.1 h7) (by rw [← h8]; exact h9)))
end Go.Proofs.YtpbdlhemnbpkoaaDoor.Pure
