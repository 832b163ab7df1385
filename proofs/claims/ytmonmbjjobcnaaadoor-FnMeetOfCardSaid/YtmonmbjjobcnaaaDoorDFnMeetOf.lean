/- What the reader of draws answers: they answer, and within which bounds. -/
import Derived.Test.YtmonmbjjobcnaaaDoorEv
import Derived.Test.YtmonmbjjobcnaaaDoorEqFnMeetOf
namespace Go.Proofs.YtmonmbjjobcnaaaDoor.Pure
open Go Go.Proofs.YtmonmbjjobcnaaaDoor.Eng Go.Proofs.YtmonmbjjobcnaaaDoor.Eq Go.Proofs.YtmonmbjjobcnaaaDoor.Ev
set_option autoImplicit false
set_option linter.unusedVariables false
set_option linter.unusedSimpArgs false
set_option linter.unnecessarySimpa false

def Bytes (s : List Int) : Prop := (∀ x ∈ s, 0 ≤ x ∧ x ≤ 255) ∧ s.length ≤ 2000
/-- A reader, m draws ahead. -/
def Rd (m : Nat) (b : List Int) (p : Int) : Prop := Bytes b ∧ 0 ≤ p ∧ p + m ≤ 100000000
theorem Rd.less {m n : Nat} {b : List Int} {p : Int} (h : Rd m b p) (hn : n ≤ m) : Rd n b p := ⟨h.1, h.2.1, by have := h.2.2; omega⟩

theorem open_ev (l : List Int) (h : ∀ x ∈ l, (Lit.int .u8 x).wf = true) : EvP (fun k => spec_l17Open k l) (fun r => Rd 100000000 r.1 r.2) := by
  refine EvP.fn (fun k => spec_l17Open_eq k l) (EvP.dec (fun h1 => ?_) (fun h1 => ?_))
  · refine EvP.yes (by omega) (EvP.yes (by omega) (EvP.yes (by omega) (EvP.now ⟨⟨fun x hx => wf_byte (h x ?_), ?_⟩, by simp, by simp⟩)))
    · exact List.mem_of_mem_take (List.mem_of_mem_drop hx)
    · simp; omega
  · exact EvP.now ⟨⟨fun x hx => wf_byte (h x hx), by show l.length ≤ 2000; omega⟩, by simp, by simp⟩

theorem pick_ev {m : Nat} {b : List Int} {p : Int} (hr : Rd (m + 1) b p) {n : Int} (hn : 1 ≤ n) (hn2 : n ≤ 1000000000) :
    EvP (fun k => spec_l17Rd_pick k b p n) (fun r => 0 ≤ r.1 ∧ r.1 < n ∧ Rd m r.2.1 r.2.2) := by
  obtain ⟨⟨hb, hl⟩, hp, hp2⟩ := hr
  have e1 : IntKind.i64.wrap (p + 1) = p + 1 := w64 (by omega) (by omega)
  have e2 : IntKind.i64.wrap (p + 1 - 1) = p := by rw [w64 (by omega) (by omega)]; omega
  have fin : ∀ x : Int, 0 ≤ x ∧ x < n → (0 ≤ (x, b, p + 1).1 ∧ (x, b, p + 1).1 < n ∧ Rd m (x, b, p + 1).2.1 (x, b, p + 1).2.2) := fun x h => ⟨h.1, h.2, ⟨hb, hl⟩, by show 0 ≤ p + 1; omega, by show p + 1 + m ≤ 100000000; omega⟩
  refine EvP.fn (fun k => spec_l17Rd_pick_eq k b p n) ?_
  rw [e1, e2]
  refine EvP.decF (fun _ => ?_) (fun h => absurd h (by omega))
  refine EvP.dec (fun h0 => EvP.now (fin 0 (by omega))) (fun h0 => ?_)
  refine EvP.dec (fun h1 => ?_) (fun h1 => ?_)
  · refine EvP.yes hp (EvP.yes h1 (EvP.no (by omega) (EvP.now (fin _ ?_))))
    have hx := getD_byte hb p.toNat
    rw [w64 (by omega) (by omega)]
    exact tmod_range _ n hx.1 hn
  · have hL : (1 : Int) ≤ b.length := by omega
    have t1 := tmod_range p b.length hp hL
    have e3 : IntKind.i64.wrap (p * 7) = p * 7 := w64 (by omega) (by omega)
    have e4 : IntKind.i64.wrap (p * 7 + 3) = p * 7 + 3 := w64 (by omega) (by omega)
    have t2 := tmod_range (p * 7 + 3) b.length (by omega) hL
    rw [e3, e4]
    refine EvP.no (by omega) (EvP.yes t1.1 (EvP.yes t1.2 (EvP.no (by omega) (EvP.yes t2.1 (EvP.yes t2.2 (EvP.no (by omega) (EvP.no (by omega) (EvP.now (fin _ ?_)))))))))
    generalize hA : b.getD (p.tmod b.length).toNat 0 = A
    generalize hB : b.getD ((p * 7 + 3).tmod b.length).toNat 0 = B'
    have hA' := getD_byte hb (p.tmod b.length).toNat
    have hB' := getD_byte hb ((p * 7 + 3).tmod b.length).toNat
    rw [hA] at hA'
    rw [hB] at hB'
    have hq : 0 ≤ Int.tdiv p b.length ∧ Int.tdiv p b.length ≤ p := ⟨Int.tdiv_nonneg hp (by omega), by
      rw [Int.tdiv_eq_ediv_of_nonneg hp]; exact Int.ediv_le_self _ hp⟩
    generalize Int.tdiv p b.length = Q at hq
    rw [w64 (x := A) (by omega) (by omega), w64 (x := B') (by omega) (by omega), w64 (x := A * 131) (by omega) (by omega), w64 (x := B' * 1117) (by omega) (by omega), w64 (x := p * 29) (by omega) (by omega), w64 (x := Q) (by omega) (by omega), w64 (x := Q * 53) (by omega) (by omega), w64 (x := A * 131 + B' * 1117) (by omega) (by omega), w64 (x := A * 131 + B' * 1117 + p * 29) (by omega) (by omega), w64 (x := A * 131 + B' * 1117 + p * 29 + Q * 53) (by omega) (by omega)]
    generalize hX : A * 131 + B' * 1117 + p * 29 + Q * 53 = X
    have hX1 : 0 ≤ X ∧ X ≤ 100000000000 := by omega
    have hd : 0 ≤ Int.tdiv X 64 ∧ Int.tdiv X 64 ≤ X := ⟨Int.tdiv_nonneg hX1.1 (by omega), by
      rw [Int.tdiv_eq_ediv_of_nonneg hX1.1]; exact Int.ediv_le_self _ hX1.1⟩
    generalize Int.tdiv X 64 = Y at hd
    rw [w64 (x := Y) (by omega) (by omega)]
    exact tmod_range (bxor X Y) n (xor_nonneg X Y (by omega) (by omega) (by omega) (by omega)) hn
theorem num_ev {m : Nat} {b : List Int} {p : Int} (hr : Rd (m + 1) b p) (l : List Int) (hl : 1 ≤ l.length) (hl2 : l.length ≤ 1000) :
    EvP (fun k => spec_l17Rd_num k b p l) (fun r => r.1 ∈ l ∧ Rd m r.2.1 r.2.2) := by
  refine EvP.fn (fun k => spec_l17Rd_num_eq k b p l) (EvP.bind (pick_ev hr (n := l.length) (by omega) (by omega)) fun a ha => ?_)
  exact EvP.yes ha.1 (EvP.yes ha.2.1 (EvP.now ⟨getD_mem _ _ _ (by omega), ha.2.2⟩))
theorem of_ev {m : Nat} {b : List Int} {p : Int} (hr : Rd (m + 1) b p) (l : List (List UInt8)) (hl : 1 ≤ l.length) (hl2 : l.length ≤ 1000) :
    EvP (fun k => spec_l17Rd_of k b p l) (fun r => r.1 ∈ l ∧ Rd m r.2.1 r.2.2) := by
  refine EvP.fn (fun k => spec_l17Rd_of_eq k b p l) (EvP.bind (pick_ev hr (n := l.length) (by omega) (by omega)) fun a ha => ?_)
  exact EvP.yes ha.1 (EvP.yes ha.2.1 (EvP.now ⟨getD_mem _ _ _ (by omega), ha.2.2⟩))
/-! signs -/
def small (c : UInt8) : Bool := decide (97 ≤ c.toNat) && decide (c.toNat ≤ 100)
theorem l1Small_ev (c : UInt8) : EvP (fun k => spec_l1Small k ((c.toNat : Nat) : Int)) (fun r => r = small c) := by
  refine EvP.fn (fun k => spec_l1Small_eq k _) (EvP.dec (fun h => EvP.now ?_) (fun h => EvP.now ?_))
  · have h1 : 97 ≤ c.toNat := by omega
    have e : decide ((c.toNat : Int) ≤ 100) = decide (c.toNat ≤ 100) := by congr 1; exact propext ⟨fun h => by omega, fun h => by omega⟩
    rw [e]; simp [small, h1]
  · have h1 : ¬ 97 ≤ c.toNat := by omega
    simp [small, h1]
theorem drop_cons {α : Type} (l : List α) (i : Nat) (d : α) (h : i < l.length) : l.drop i = l.getD i d :: l.drop (i + 1) := by
  rw [List.drop_eq_getElem_cons h, List.getD_eq_getElem?_getD, List.getElem?_eq_getElem h]; rfl
/-! grammars drawn -/
abbrev GramT := List UInt8 × List (List UInt8 × List UInt8)
/-- At most n rules, all short. -/
def Gr (n : Nat) (g : GramT) : Prop := g.1.length ≤ 5 ∧ g.2.length ≤ n ∧ ∀ x ∈ g.2, x.1.length ≤ 5 ∧ x.2.length ≤ 5
theorem mG {n : Nat} (h : n ≤ 1000000) : n < maxLenE := by unfold maxLenE; omega
theorem Gr.more {n m : Nat} {g : GramT} (h : Gr n g) (hm : n ≤ m) : Gr m g := ⟨h.1, by have := h.2.1; omega, h.2.2⟩
theorem Gr.add {n : Nat} {g : GramT} (h : Gr n g) (x : List UInt8 × List UInt8) (hx : x.1.length ≤ 5 ∧ x.2.length ≤ 5) : Gr (n + 1) (g.1, g.2 ++ [x]) :=
  ⟨h.1, by have := h.2.1; simp; omega, fun y hy => by
    rcases List.mem_append.1 hy with hy | hy
    · exact h.2.2 y hy
    · rw [List.mem_singleton.1 hy]; exact hx⟩
theorem Gr.set {n : Nat} {g : GramT} (h : Gr n g) (i : Nat) (x : List UInt8 × List UInt8) (hx : x.1.length ≤ 5 ∧ x.2.length ≤ 5) : Gr n (g.1, g.2.set i x) :=
  ⟨h.1, by have := h.2.1; simp; omega, fun y hy => by
    rcases List.mem_or_eq_of_mem_set hy with hy | hy
    · exact h.2.2 y hy
    · rw [hy]; exact hx⟩
theorem Gr.at {n : Nat} {g : GramT} (h : Gr n g) (i : Nat) (hi : i < g.2.length) : (g.2.getD i ([], [])).1.length ≤ 5 ∧ (g.2.getD i ([], [])).2.length ≤ 5 := h.2.2 _ (getD_mem _ _ _ hi)
theorem signed_loop : ∀ (n m : Nat) {b : List Int} {p : Int} (t : List UInt8) (i N : Int), i + n = N → 0 ≤ i → N ≤ 1000 → Rd (m + n) b p → t.length ≤ i → EvP (fun k => spec_l1Signed_L58 k (b, p) N t i) (fun r => r.1.length ≤ N ∧ Rd m r.2.1 r.2.2)
  | 0, m, b, p, t, i, N, h, h0, hN, hr, ht => by
    refine EvP.fn (fun k => spec_l1Signed_L58_eq k _ _ _ _) (EvP.decN (by omega) (EvP.now ⟨by show (t.length : Int) ≤ N; omega, hr⟩))
  | n + 1, m, b, p, t, i, N, h, h0, hN, hr, ht => by
    refine EvP.fn (fun k => spec_l1Signed_L58_eq k _ _ _ _) (EvP.decY (by omega) ?_)
    refine EvP.bind (of_ev (m := m + n) (hr.less (by omega)) _ (by simp) (by simp)) fun a ha => ?_
    have hl : a.1.length = 1 := by
      have := ha.1
      simp only [List.mem_cons, List.not_mem_nil, or_false] at this
      rcases this with h | h | h | h | h | h | h | h | h <;> rw [h] <;> rfl
    refine EvP.yes (by omega) ?_
    rw [w64 (by omega) (by omega)]
    exact signed_loop n m _ (i + 1) N (by omega) (by omega) hN ha.2 (by simp [hl]; omega)
theorem signed_ev {m n : Nat} {b : List Int} {p : Int} {N : Int} (h0 : 0 ≤ N) (hN : N ≤ n) (hn : n ≤ 1000) (hr : Rd (m + n) b p) : EvP (fun k => spec_l1Signed k b p N) (fun r => r.1.length ≤ N ∧ Rd m r.2.1 r.2.2) := by
  obtain ⟨N', rfl⟩ := Int.eq_ofNat_of_zero_le h0
  exact EvP.fn (fun k => spec_l1Signed_eq k _ _ _) (signed_loop N' m [] 0 _ (by omega) (by omega) (by omega) (hr.less (by omega)) (by simp))
theorem place_loop (l : List (List UInt8 × List UInt8)) (hl : l.length ≤ 1000) (x : List UInt8 × List UInt8) : ∀ (n i : Nat), i + n = l.length → EvP (fun k => spec_l1Place_L26 k l x (i : Int)) (fun r => r < 0 ↔ x ∉ l.drop i)
  | 0, i, h => by
    refine EvP.fn (fun k => spec_l1Place_L26_eq k _ _ _) (EvP.decN (by omega) (EvP.now ?_))
    rw [List.drop_eq_nil_of_le (by omega)]
    exact ⟨fun _ h => absurd h List.not_mem_nil, fun _ => by decide⟩
  | n + 1, i, h => by
    refine EvP.fn (fun k => spec_l1Place_L26_eq k _ _ _) (EvP.decY (by omega) (EvP.yes (by omega) (EvP.yes (by omega) ?_)))
    rw [Int.toNat_natCast, drop_cons l i ([], []) (by omega)]
    refine EvP.ite (fun h' => EvP.now ?_) (fun h' => ?_)
    · simp only [Bool.and_eq_true, decide_eq_true_eq] at h'
      have e : x = l.getD i ([], []) := Prod.ext h'.1.symm h'.2.symm
      exact ⟨fun h => absurd h (by omega), fun h => absurd (e ▸ List.mem_cons_self) h⟩
    · have e : ¬ x = l.getD i ([], []) := fun e => h' (by rw [← e]; simp)
      rw [w64 (by omega) (by omega)]
      refine (place_loop l hl x n (i + 1) (by omega)).mono fun r hr => ?_
      rw [hr, List.mem_cons, not_or]
      exact ⟨fun h => ⟨e, h⟩, fun h => h.2⟩
theorem place_ev (l : List (List UInt8 × List UInt8)) (hl : l.length ≤ 1000) (x y : List UInt8) : EvP (fun k => spec_l1Place k l x y) (fun r => r < 0 ↔ (x, y) ∉ l) := by
  refine EvP.fn (fun k => spec_l1Place_eq k _ _ _) ((place_loop l hl (x, y) l.length 0 (by omega)).mono fun r hr => ?_)
  rw [hr, List.drop_zero]
theorem base_ev (n : Int) : EvP (fun k => spec_l1Base k n) (fun r => Gr 6 r) := by
  refine EvP.fn (fun k => spec_l1Base_eq k _) ?_
  refine EvP.dec (fun _ => EvP.now ?_) (fun _ => EvP.dec (fun _ => EvP.now ?_) (fun _ => EvP.dec (fun _ => EvP.now ?_) (fun _ => EvP.dec (fun _ => EvP.now ?_) (fun _ => EvP.dec (fun _ => EvP.now ?_) (fun _ => EvP.dec (fun _ => EvP.now ?_) (fun _ => EvP.dec (fun _ => EvP.now ?_) (fun _ => EvP.now ?_)))))))
  all_goals (unfold Gr; decide)
theorem gram_loop : ∀ (n m : Nat) {b : List Int} {p : Int} (x g : GramT) (q : Nat), Gr q g → q + n ≤ 100 → Rd (m + 5 * n) b p →
    EvP (fun k => spec_l1Gram_L122 k (b, p) x g (n : Int)) (fun r => Gr (q + n) r.1 ∧ Rd m r.2.1 r.2.2)
  | 0, m, b, p, x, g, q, hg, hq, hr => by
    refine EvP.fn (fun k => spec_l1Gram_L122_eq k _ _ _ _) (EvP.decN (by omega) (EvP.now ⟨hg, hr⟩))
  | n + 1, m, b, p, x, g, q, hg, hq, hr => by
    have hg2 := hg.2.1
    refine EvP.fn (fun k => spec_l1Gram_L122_eq k _ _ _ _) (EvP.decY (by omega) ?_)
    refine EvP.bind (of_ev (m := m + 5 * n + 4) (hr.less (by omega)) _ (by simp) (by simp)) fun a ha => ?_
    have hl : a.1.length = 1 := by
      have := ha.1
      simp only [List.mem_cons, List.not_mem_nil, or_false] at this
      rcases this with h | h | h | h <;> rw [h] <;> rfl
    refine EvP.bind (num_ev (m := m + 5 * n + 3) (ha.2.less (by omega)) _ (by simp) (by simp)) fun c hc => ?_
    have hcb : 0 ≤ c.1 ∧ c.1 ≤ 3 := by
      have := hc.1
      simp only [List.mem_cons, List.not_mem_nil, or_false] at this
      omega
    refine EvP.bind (signed_ev (m := m + 5 * n) (n := 3) hcb.1 (by omega) (by omega) (hc.2.less (by omega))) fun d hd => ?_
    refine EvP.bind (place_ev g.2 (by omega) a.1 d.1) fun e he => ?_
    have e1 : IntKind.i64.wrap (((n + 1 : Nat) : Int) - 1) = (n : Int) := by rw [w64 (by omega) (by have := hr.2.2; omega)]; omega
    rw [e1]
    refine EvP.dec (fun _ => EvP.yes (mG (by simp; omega)) ?_) (fun _ => ?_)
    · exact (gram_loop n m _ _ (q + 1) (hg.add (a.1, d.1) ⟨by show a.1.length ≤ 5; omega, by show d.1.length ≤ 5; omega⟩) (by omega) hd.2).mono fun r hr => ⟨hr.1.more (by omega), hr.2⟩
    · exact (gram_loop n m _ _ q hg (by omega) hd.2).mono fun r hr => ⟨hr.1.more (by omega), hr.2⟩
theorem gram_ev {m : Nat} {b : List Int} {p : Int} (hr : Rd (m + 30) b p) : EvP (fun k => spec_l1Gram k b p) (fun r => Gr 6 r.1 ∧ Rd m r.2.1 r.2.2) := by
  refine EvP.fn (fun k => spec_l1Gram_eq k _ _) (EvP.bind (pick_ev (m := m + 29) hr (by omega) (by omega)) fun a ha => EvP.dec (fun _ => ?_) (fun _ => ?_))
  · refine EvP.bind (num_ev (m := m + 28) ha.2.2 _ (by simp) (by simp)) fun c hc => EvP.bind (base_ev c.1) fun d hd => EvP.now ⟨hd, hc.2.less (by omega)⟩
  · refine EvP.bind (num_ev (m := m + 28) ha.2.2 _ (by simp) (by simp)) fun c hc => ?_
    have hcb : 0 ≤ c.1 ∧ c.1 ≤ 5 := by
      have := hc.1
      simp only [List.mem_cons, List.not_mem_nil, or_false] at this
      omega
    obtain ⟨N, hN⟩ := Int.eq_ofNat_of_zero_le hcb.1
    rw [hN]
    exact (gram_loop N m _ _ 0 ⟨by decide, by decide, by simp⟩ (by omega) (hc.2.less (by omega))).mono fun r hr => ⟨hr.1.more (by omega), hr.2⟩
theorem full_loop : ∀ (n m : Nat) {b : List Int} {p : Int} (x g : GramT) (q : Nat), Gr q g → 9 ≤ g.2.length + n → 9 ≤ q → Rd (m + 3 * n) b p →
    EvP (fun k => spec_l1Bent_L259582 k (b, p) x g) (fun r => Gr q r.1 ∧ Rd m r.2.1 r.2.2)
  | 0, m, b, p, x, g, q, hg, h, hq, hr => by
    refine EvP.fn (fun k => spec_l1Bent_L259582_eq k _ _ _) (EvP.decN (by omega) (EvP.now ⟨hg, hr⟩))
  | n + 1, m, b, p, x, g, q, hg, h, hq, hr => by
    refine EvP.fn (fun k => spec_l1Bent_L259582_eq k _ _ _) (EvP.dec (fun h8 => ?_) (fun _ => EvP.now ⟨hg, hr.less (by omega)⟩))
    refine EvP.bind (signed_ev (m := m + 3 * n) (n := 3) (by omega) (by omega) (by omega) (hr.less (by omega))) fun d hd => ?_
    refine EvP.yes (mG (by simp; omega)) ?_
    have hg8 : Gr 8 g := ⟨hg.1, by omega, hg.2.2⟩
    exact full_loop n m _ _ q ((hg8.add (_, d.1) ⟨by show 1 ≤ 5; decide, by show d.1.length ≤ 5; have := hd.1; omega⟩).more hq) (by simp; omega) hq hd.2
theorem lens {l : List (List UInt8)} {x : List UInt8} (h : x ∈ l) (hl : (l.all fun x => decide (x.length ≤ 5)) = true) : x.length ≤ 5 := of_decide_eq_true (List.all_eq_true.1 hl x h)
theorem bentG_ev {m : Nat} {b : List Int} {p : Int} (hr : Rd (m + 40) b p) (n : Nat) (hn : n ≤ 100) (h8 : 8 ≤ n) (g : GramT) (hg : Gr n g) : EvP (fun k => spec_l1Bent k b p g.1 g.2) (fun r => Gr (n + 1) r.1 ∧ Rd m r.2.1 r.2.2) := by
  have hg2 := hg.2.1
  refine EvP.fn (fun k => spec_l1Bent_eq k _ _ _ _) (EvP.yes (mG (by omega)) (EvP.bind (pick_ev (m := m + 39) hr (by omega) (by omega)) fun a ha => ?_))
  refine EvP.decF (fun _ => EvP.dec (fun _ => EvP.now ⟨hg.more (by omega), ha.2.2.less (by omega)⟩) (fun h0 => ?_)) (fun _ => EvP.now ⟨hg.more (by omega), ha.2.2.less (by omega)⟩)
  refine EvP.bind (pick_ev (m := m + 38) ha.2.2 (by omega) (by omega)) fun c hc => EvP.bind (pick_ev (m := m + 37) hc.2.2 (by omega) (by omega)) fun d hd => ?_
  have hat := hg.at c.1.toNat (by omega)
  refine EvP.dec (fun _ => ?_) (fun _ => EvP.dec (fun _ => ?_) (fun _ => EvP.dec (fun _ => ?_) (fun _ => EvP.dec (fun _ => ?_) (fun _ => ?_))))
  · exact EvP.bind (of_ev (m := m + 36) hd.2.2 _ (by simp) (by simp)) fun e he => EvP.now ⟨⟨lens he.1 (by decide), by show g.2.length ≤ n + 1; omega, hg.2.2⟩, he.2.less (by omega)⟩
  · refine EvP.bind (of_ev (m := m + 36) hd.2.2 _ (by simp) (by simp)) fun e he => ?_
    have hl := lens he.1 (by decide)
    exact EvP.yes hc.1 (EvP.yes hc.2.1 (EvP.now ⟨(hg.set _ (e.1, _) ⟨hl, hat.2⟩).more (by omega), he.2.less (by omega)⟩))
  · refine EvP.bind (of_ev (m := m + 36) hd.2.2 _ (by simp) (by simp)) fun e he => ?_
    have hl := lens he.1 (by decide)
    exact EvP.yes hc.1 (EvP.yes hc.2.1 (EvP.now ⟨(hg.set _ (_, e.1) ⟨hat.1, hl⟩).more (by omega), he.2.less (by omega)⟩))
  · exact EvP.yes hc.1 (EvP.yes hc.2.1 (EvP.yes (mG (by simp; omega)) (EvP.now ⟨hg.add _ hat, hd.2.2.less (by omega)⟩)))
  · exact (full_loop 9 m _ g (n + 1) (hg.more (by omega)) (by omega) (by omega) (hd.2.2.less (by omega)))
def signSmall (s : List UInt8) : Bool := match s with | [c] => small c | _ => false
theorem signSmall_ev (s : List UInt8) : EvP (fun k => spec_SignSmall k s) (fun r => r = signSmall s) := by
  refine EvP.fn (fun k => spec_SignSmall_eq k s) (EvP.dec (fun h => EvP.yes (by omega) (EvP.yes (by omega) (EvP.bind (l1Small_ev _) fun b hb => EvP.now ?_))) (fun h => EvP.now ?_))
  · match s, h with
    | [c], _ => exact hb
  · match s, h with
    | [], _ => rfl
    | [c], h => exact absurd rfl h
    | _ :: _ :: _, _ => rfl
theorem for_loop (s : List UInt8) (g : GramT) (hg : g.2.length ≤ 1000) : ∀ (n i : Nat) (l : List Int), i + n = g.2.length → l.length ≤ i → (∀ j ∈ l, 0 ≤ j ∧ j < g.2.length) →
    EvP (fun k => spec_l1For_L58 k s g l (i : Int)) (fun r => r.length ≤ g.2.length ∧ ∀ j ∈ r, 0 ≤ j ∧ j < g.2.length)
  | 0, i, l, h, hl, hj => by
    refine EvP.fn (fun k => spec_l1For_L58_eq k _ _ _ _) (EvP.decN (by omega) (EvP.now ⟨by omega, hj⟩))
  | n + 1, i, l, h, hl, hj => by
    refine EvP.fn (fun k => spec_l1For_L58_eq k _ _ _ _) (EvP.decY (by omega) (EvP.yes (by omega) (EvP.yes (by omega) ?_)))
    rw [w64 (by omega) (by omega)]
    refine EvP.dec (fun _ => EvP.yes (mG (by simp; omega)) ?_) (fun _ => ?_)
    · refine for_loop s _ hg n (i + 1) _ (by show i + 1 + n = g.2.length; omega) (by simp; omega) fun j hj' => ?_
      rcases List.mem_append.1 hj' with h' | h'
      · exact hj j h'
      · rw [List.mem_singleton.1 h']; constructor
        · omega
        · show (i : Int) < (g.2.length : Int); omega
    · exact for_loop s _ hg n (i + 1) _ (by show i + 1 + n = g.2.length; omega) (by omega) hj
theorem for_ev (g : GramT) (hg : g.2.length ≤ 1000) (s : List UInt8) : EvP (fun k => spec_l1For k g.1 g.2 s) (fun r => r.length ≤ g.2.length ∧ ∀ j ∈ r, 0 ≤ j ∧ j < g.2.length) :=
  EvP.fn (fun k => spec_l1For_eq k _ _ _) (for_loop s g hg g.2.length 0 [] (by omega) (by simp) (fun j h => absurd h List.not_mem_nil))
/-! trees drawn -/
/-- No deeper than n, few kids, short signs. -/
def Slim (w : Nat) : Nat → Tr → Prop
  | 0, _ => False
  | n + 1, t => t.s.length ≤ 5 ∧ -2 ≤ t.r ∧ t.r ≤ 1000 ∧ t.k.length ≤ w ∧ ∀ u ∈ t.k, Slim w n u
theorem Slim.more {w w' : Nat} (hw : w ≤ w') : ∀ {n n' : Nat} {t : Tr}, Slim w n t → n ≤ n' → Slim w' n' t
  | n + 1, n' + 1, t, h, hn => ⟨h.1, h.2.1, h.2.2.1, by have := h.2.2.2.1; omega, fun u hu => (h.2.2.2.2 u hu).more hw (by omega)⟩
theorem Slim.leaf {w n : Nat} {s : List UInt8} (hs : s.length ≤ 5) : Slim w (n + 1) (Tr.mk s (-1) []) :=
  ⟨hs, by show (-2 : Int) ≤ -1; decide, by show (-1 : Int) ≤ 1000; decide, Nat.zero_le _, fun u hu => absurd hu List.not_mem_nil⟩
def Rn : Nat → Nat | 0 => 0 | n + 1 => 1 + 5 * Rn n
theorem anyAt_loop (d : Nat) (hd : d ≤ 1000) (g : GramT) (hg : Gr 100 g)
    (ih : ∀ {m : Nat} {b : List Int} {p : Int}, Rd (m + Rn d) b p → ∀ (s : List UInt8), s.length ≤ 5 → ∀ deep : Int, deep ≤ d → EvP (fun k => spec_l3Any k b p g.1 g.2 s deep) (fun r => Slim 5 (d + 1) (Tr.mk r.1.1 r.1.2.1 r.1.2.2) ∧ Rd m r.2.1 r.2.2))
    (j : Int) (h0 : 0 ≤ j) (hj : j < g.2.length) (deep : Int) (h1 : 1 ≤ deep) (hdeep : deep ≤ d + 1) :
    ∀ (n i m : Nat) {b : List Int} {p : Int} (z t : List UInt8 × Int × List Tr), i + n = (g.2.getD j.toNat ([], [])).2.length → t.2.2.length = i → t.1.length ≤ 5 → -2 ≤ t.2.1 → t.2.1 ≤ 1000 → (∀ u ∈ t.2.2, Slim 5 (d + 1) u) → Rd (m + n * Rn d) b p →
    EvP (fun k => spec_l3Any_L2042 k (b, p) deep g z j t (i : Int)) (fun r => Slim 5 (d + 2) (Tr.mk r.1.1 r.1.2.1 r.1.2.2) ∧ Rd m r.2.1 r.2.2)
  | 0, i, m, b, p, z, t, h, ht, hs, hr1, hr2, hk, hr => by
    have hat := (hg.at j.toNat (by omega)).2
    refine EvP.fn (fun k => spec_l3Any_L2042_eq k _ _ _ _ _ _ _) (EvP.yes h0 (EvP.yes hj (EvP.decN (by omega) (EvP.now ⟨⟨hs, hr1, hr2, ?_, hk⟩, hr.less (by omega)⟩))))
    show t.2.2.length ≤ 5; omega
  | n + 1, i, m, b, p, z, t, h, ht, hs, hr1, hr2, hk, hr => by
    have hat := (hg.at j.toNat (by omega)).2
    have e1 : IntKind.i64.wrap ((i : Int) + 1) = ((i + 1 : Nat) : Int) := w64 (by omega) (by omega)
    have e2 : IntKind.i64.wrap (deep - 1) = deep - 1 := w64 (by omega) (by omega)
    refine EvP.fn (fun k => spec_l3Any_L2042_eq k _ _ _ _ _ _ _) (EvP.yes h0 (EvP.yes hj (EvP.decY (by omega) (EvP.yes h0 (EvP.yes hj ?_)))))
    rw [e1, e2]
    refine EvP.yes (by omega) (EvP.yes (by omega) (EvP.yes (by omega) ?_))
    have hm : m + (n + 1) * Rn d = m + n * Rn d + Rn d := by rw [Nat.succ_mul]; omega
    refine EvP.bind (ih (m := m + n * Rn d) (hm ▸ hr) _ (by rw [List.length_drop, List.length_take]; omega) (deep - 1) (by omega)) fun a ha => EvP.yes (mG (by simp; omega)) ?_
    refine anyAt_loop d hd g hg ih j h0 hj deep h1 hdeep n (i + 1) m _ _ (by omega) (by simp; omega) hs hr1 hr2 (fun u hu => ?_) ha.2
    rcases List.mem_append.1 hu with hu | hu
    · exact hk u hu
    · rw [List.mem_singleton.1 hu]; exact ha.1
theorem least_loop (d : Nat) (g : GramT) (hg : Gr 100 g) (l : List Int) (hl : ∀ j ∈ l, 0 ≤ j ∧ j < g.2.length) (hl2 : l.length ≤ 1000) (Q : ((List UInt8 × Int × List Tr) × List Int × Int) → Prop) (s : List UInt8) (deep : Int) (z : List UInt8 × Int × List Tr) (b : List Int) (p : Int)
    (nx : ∀ j : Int, 0 ≤ j → j < g.2.length → EvP (fun k => spec_l3Any_L127 k (b, p) s deep g z j) Q) : ∀ (n i : Nat) (j : Int), i + n = l.length → 0 ≤ j → j < g.2.length →
    EvP (fun k => spec_l3Any_L2026 k (b, p) s deep g z l j (i : Int)) Q
  | 0, i, j, h, h0, hj => EvP.fn (fun k => spec_l3Any_L2026_eq k _ _ _ _ _ _ _ _) (EvP.decN (by omega) (nx j h0 hj))
  | n + 1, i, j, h, h0, hj => by
    have hi := hl _ (getD_mem l i 0 (by omega))
    refine EvP.fn (fun k => spec_l3Any_L2026_eq k _ _ _ _ _ _ _ _) (EvP.decY (by omega) (EvP.yes (by omega) (EvP.yes (by omega) ?_)))
    rw [Int.toNat_natCast, w64 (by omega) (by omega)]
    refine EvP.yes hi.1 (EvP.yes hi.2 (EvP.yes h0 (EvP.yes hj (EvP.dec (fun _ => EvP.yes (by omega) (EvP.yes (by omega) ?_)) (fun _ => ?_)))))
    · exact least_loop d g hg l hl hl2 Q s deep z b p nx n (i + 1) _ (by omega) hi.1 hi.2
    · exact least_loop d g hg l hl hl2 Q s deep z b p nx n (i + 1) _ (by omega) h0 hj
theorem any_ev (g : GramT) (hg : Gr 100 g) : ∀ (d : Nat), d ≤ 1000 → ∀ {m : Nat} {b : List Int} {p : Int}, Rd (m + Rn d) b p → ∀ (s : List UInt8), s.length ≤ 5 → ∀ deep : Int, deep ≤ d →
    EvP (fun k => spec_l3Any k b p g.1 g.2 s deep) (fun r => Slim 5 (d + 1) (Tr.mk r.1.1 r.1.2.1 r.1.2.2) ∧ Rd m r.2.1 r.2.2) := by
  have hg2 := hg.2.1
  intro d
  induction d with
  | zero =>
    intro _ m b p hr s hs deep hd
    have z : Slim 5 1 (Tr.mk s (-1) []) := Slim.leaf hs
    refine EvP.fn (fun k => spec_l3Any_eq k _ _ _ _ _ _) (EvP.bind (signSmall_ev s) fun x hx => EvP.ite (fun _ => EvP.now ⟨z, hr.less (by omega)⟩) (fun _ => EvP.bind (for_ev g (by omega) s) fun l hl => ?_))
    exact EvP.decF (fun _ => EvP.decY (by omega) (EvP.now ⟨z, hr.less (by omega)⟩)) (fun _ => EvP.now ⟨z, hr.less (by omega)⟩)
  | succ d ih =>
    intro hd m b p hr s hs deep hdeep
    have z : Slim 5 (d + 2) (Tr.mk s (-1) []) := Slim.leaf hs
    refine EvP.fn (fun k => spec_l3Any_eq k _ _ _ _ _ _) (EvP.bind (signSmall_ev s) fun x hx => EvP.ite (fun _ => EvP.now ⟨z, hr.less (by omega)⟩) (fun _ => EvP.bind (for_ev g (by omega) s) fun l hl => ?_))
    refine EvP.decF (fun hl0 => EvP.dec (fun _ => EvP.now ⟨z, hr.less (by omega)⟩) (fun hdp => ?_)) (fun _ => EvP.now ⟨z, hr.less (by omega)⟩)
    have hR : Rn (d + 1) = 1 + 5 * Rn d := rfl
    refine EvP.bind (pick_ev (m := m + 5 * Rn d) (hr.less (by omega)) (by omega) (by omega)) fun c hc => EvP.yes hc.1 (EvP.yes hc.2.1 ?_)
    have hj := hl.2 _ (getD_mem l c.1.toNat 0 (by omega))
    have nx : ∀ j : Int, 0 ≤ j → j < g.2.length → EvP (fun k => spec_l3Any_L127 k (c.2.1, c.2.2) s deep g ([], 0, []) j) (fun r => Slim 5 (d + 2) (Tr.mk r.1.1 r.1.2.1 r.1.2.2) ∧ Rd m r.2.1 r.2.2) := fun j h0 hj => by
      have hat := (hg.at j.toNat (by omega)).2
      have hm : (g.2.getD j.toNat ([], [])).2.length * Rn d ≤ 5 * Rn d := Nat.mul_le_mul_right _ hat
      refine EvP.fn (fun k => spec_l3Any_L127_eq k _ _ _ _ _ _) ?_
      exact anyAt_loop d (by omega) g hg (fun hr => ih (by omega) hr) j h0 hj deep (by omega) (by omega) (g.2.getD j.toNat ([], [])).2.length 0 m _ (s, j, []) (by omega) rfl hs (by show -2 ≤ j; omega) (by show j ≤ 1000; omega) (fun u hu => absurd hu List.not_mem_nil) (hc.2.2.less (by omega))
    exact EvP.dec (fun _ => least_loop d g hg l hl.2 (by omega) _ s deep _ _ _ nx l.length 0 _ (by omega) hj.1 hj.2) (fun _ => nx _ hj.1 hj.2)
/-! strings.Trim -/
theorem dropWhile_all {α : Type} (p : α → Bool) : ∀ l : List α, l.dropWhile p = [] ↔ l.all p = true
  | [] => by simp
  | x :: l => by
    rw [List.dropWhile_cons]
    cases h : p x with
    | true => simp only [if_true, List.all_cons, h, Bool.true_and]; exact dropWhile_all p l
    | false => simp [h]
theorem trim_nil (s c : List UInt8) : (trimE s c = []) ↔ s.all c.contains = true := by
  unfold trimE
  rw [List.reverse_eq_nil_iff, dropWhile_all, List.all_reverse, ← dropWhile_all]
  constructor
  · intro h
    have h1 := (dropWhile_all _ _).1 h
    cases hd : s.dropWhile c.contains with
    | nil => exact (dropWhile_all _ _).1 hd
    | cons x l =>
      exfalso
      have h2 : (x :: l).dropWhile c.contains = [] := hd ▸ h
      have h3 : c.contains x = false := by
        have := List.head?_dropWhile_not c.contains s
        rw [hd] at this; simpa using this
      rw [List.dropWhile_cons, h3] at h2
      simp at h2
  · intro h
    rw [(dropWhile_all _ _).2 h]; rfl
/-! grammars that are right -/
def big (c : UInt8) : Bool := decide (65 ≤ c.toNat) && decide (c.toNat ≤ 69)
def signBig (s : List UInt8) : Bool := match s with | [c] => big c | _ => false
def sign (c : UInt8) : Bool := big c || small c
def ruleOk (x : List UInt8 × List UInt8) : Bool := signBig x.1 && (x.2.all sign && decide (x.2.length ≤ 4))
def GramOkP (g : GramT) : Prop := signBig g.1 = true ∧ g.2.length ≤ 8 ∧ ∀ j, j < g.2.length → ruleOk (g.2.getD j ([], [])) = true ∧ g.2.getD j ([], []) ∉ g.2.take j
theorem l1Big_ev (c : UInt8) : EvP (fun k => spec_l1Big k ((c.toNat : Nat) : Int)) (fun r => r = big c) := by
  refine EvP.fn (fun k => spec_l1Big_eq k _) (EvP.dec (fun h => EvP.now ?_) (fun h => EvP.now ?_))
  · have h1 : 65 ≤ c.toNat := by omega
    have e : decide ((c.toNat : Int) ≤ 69) = decide (c.toNat ≤ 69) := by congr 1; exact propext ⟨fun h => by omega, fun h => by omega⟩
    rw [e]; simp [big, h1]
  · have h1 : ¬ 65 ≤ c.toNat := by omega
    simp [big, h1]
theorem specSignBig_ev (s : List UInt8) : EvP (fun k => spec_SignBig k s) (fun r => r = signBig s) := by
  refine EvP.fn (fun k => spec_SignBig_eq k s) (EvP.dec (fun h => EvP.yes (by omega) (EvP.yes (by omega) (EvP.bind (l1Big_ev _) fun b hb => EvP.now ?_))) (fun h => EvP.now ?_))
  · match s, h with
    | [c], _ => exact hb
  · match s, h with
    | [], _ => rfl
    | [c], h => exact absurd rfl h
    | _ :: _ :: _, _ => rfl
theorem isIn_ev (s : List UInt8) (lo hi : Nat) : EvP (fun k => impl_isIn k s lo hi) (fun r => r = (match s with | [c] => decide (lo ≤ c.toNat) && decide (c.toNat ≤ hi) | _ => false)) := by
  refine EvP.fn (fun k => impl_isIn_eq k s _ _) (EvP.dec (fun h => EvP.yes (by omega) (EvP.yes (by omega) (EvP.dec (fun h1 => EvP.yes (by omega) (EvP.yes (by omega) (EvP.now ?_))) (fun h1 => EvP.now ?_)))) (fun h => EvP.now ?_))
  · match s, h with
    | [c], _ =>
      have h1 : lo ≤ c.toNat := by have : (lo : Int) ≤ (c.toNat : Int) := h1; omega
      show decide ((c.toNat : Int) ≤ (hi : Int)) = _
      have e : decide ((c.toNat : Int) ≤ (hi : Int)) = decide (c.toNat ≤ hi) := by congr 1; exact propext ⟨fun h => by omega, fun h => by omega⟩
      rw [e]; simp [h1]
  · match s, h with
    | [c], _ =>
      have h1 : ¬ lo ≤ c.toNat := by have : ¬ (lo : Int) ≤ (c.toNat : Int) := h1; omega
      simp [h1]
  · match s, h with
    | [], _ => rfl
    | [c], h => exact absurd rfl h
    | _ :: _ :: _, _ => rfl
theorem implSignBig_ev (s : List UInt8) : EvP (fun k => impl_SignBig k s) (fun r => r = signBig s) :=
  EvP.fn (fun k => impl_SignBig_eq k s) (EvP.bind (isIn_ev s 65 69) fun r hr => EvP.now (by rw [hr]; rfl))
theorem implSignSmall_ev (s : List UInt8) : EvP (fun k => impl_SignSmall k s) (fun r => r = signSmall s) :=
  EvP.fn (fun k => impl_SignSmall_eq k s) (EvP.bind (isIn_ev s 97 100) fun r hr => EvP.now (by rw [hr]; rfl))
def signs : List UInt8 := [65, 66, 67, 68, 69, 97, 98, 99, 100]
set_option maxRecDepth 100000 in
theorem sign_contains (c : UInt8) : signs.contains c = sign c := by
  have key : ∀ n : Nat, n < 256 → signs.contains (UInt8.ofNat n) = sign (UInt8.ofNat n) := by decide +kernel
  have := key c.toNat (UInt8.toNat_lt c)
  rwa [UInt8.ofNat_toNat] at this
theorem areSigns_ev (s : List UInt8) : EvP (fun k => impl_areSigns k s 4) (fun r => r = (s.all sign && decide (s.length ≤ 4))) := by
  refine EvP.fn (fun k => impl_areSigns_eq k _ _) (EvP.dec (fun h => ?_) (fun h => EvP.now ?_))
  · refine EvP.bind (P := fun r => r = trimE s signs) (EvP.fn (fun k => strings_Trim_eq k _ _) (EvP.yes ⟨by omega, by decide, by decide⟩ (EvP.now rfl))) fun r hr => EvP.now ?_
    have e : (signs.contains : UInt8 → Bool) = sign := funext sign_contains
    have h4 : s.length ≤ 4 := by omega
    have := trim_nil s signs
    rw [e] at this
    rw [hr]
    show decide (trimE s signs = []) = _
    simp only [h4, decide_true, Bool.and_true]
    cases hs : s.all sign with
    | true => exact decide_eq_true (this.2 hs)
    | false => exact decide_eq_false (fun h => by rw [this.1 h] at hs; cases hs)
  · have h4 : ¬ s.length ≤ 4 := by omega
    simp [h4]
theorem l1Right_loop (s : List UInt8) (hs : s.length ≤ 1000000) : ∀ (n i : Nat), i + n = s.length → EvP (fun k => spec_l1Right_L26 k s 4 (i : Int)) (fun r => r = ((s.drop i).all sign && decide (s.length ≤ 4)))
  | 0, i, h => by
    refine EvP.fn (fun k => spec_l1Right_L26_eq k _ _ _) (EvP.decN (by omega) (EvP.now ?_))
    have e : decide ((s.length : Int) ≤ 4) = decide (s.length ≤ 4) := by congr 1; exact propext ⟨fun h => by omega, fun h => by omega⟩
    rw [e, List.drop_eq_nil_of_le (by omega)]; simp
  | n + 1, i, h => by
    refine EvP.fn (fun k => spec_l1Right_L26_eq k _ _ _) (EvP.decY (by omega) (EvP.yes (by omega) (EvP.yes (by omega) ?_)))
    rw [Int.toNat_natCast, w64 (by omega) (by omega), drop_cons s i 0 (by omega)]
    have next := l1Right_loop s hs n (i + 1) (by omega)
    refine EvP.bind (l1Big_ev _) fun b hb => ?_
    subst hb
    cases hc : big (s.getD i 0) with
    | true =>
      refine EvP.no (by simp) (next.mono fun r hr => ?_)
      have : sign (s.getD i 0) = true := by simp only [sign, hc, Bool.true_or]
      rw [hr, List.all_cons, this, Bool.true_and]
    | false =>
      refine EvP.yes rfl (EvP.yes (by omega) (EvP.yes (by omega) (EvP.bind (l1Small_ev _) fun b hb => ?_)))
      subst hb
      have e : sign (s.getD i 0) = small (s.getD i 0) := by simp only [sign, hc, Bool.false_or]
      cases hd : small (s.getD i 0) with
      | true => exact EvP.no (by simp) (next.mono fun r hr => by rw [hr, List.all_cons, e, hd, Bool.true_and])
      | false => exact EvP.yes rfl (EvP.now (by rw [List.all_cons, e, hd]; rfl))
theorem l1Right_ev (s : List UInt8) (hs : s.length ≤ 1000000) : EvP (fun k => spec_l1Right k s 4) (fun r => r = (s.all sign && decide (s.length ≤ 4))) :=
  EvP.fn (fun k => spec_l1Right_eq k _ _) ((l1Right_loop s hs s.length 0 (by omega)).mono fun r hr => by rw [hr, List.drop_zero])
theorem indexRule_loop (l : List (List UInt8 × List UInt8)) (hl : l.length ≤ 1000) (x : List UInt8 × List UInt8) : ∀ (n i : Nat), i + n = l.length → EvP (fun k => slices_Index_Simpl_Rule_impl_Rule_L26 k l x (l.length : Int) (i : Int)) (fun r => r < 0 ↔ x ∉ l.drop i)
  | 0, i, h => by
    refine EvP.fn (fun k => slices_Index_Simpl_Rule_impl_Rule_L26_eq k _ _ _ _) (EvP.decN (by omega) (EvP.now ?_))
    rw [List.drop_eq_nil_of_le (by omega)]
    exact ⟨fun _ h => absurd h List.not_mem_nil, fun _ => by decide⟩
  | n + 1, i, h => by
    refine EvP.fn (fun k => slices_Index_Simpl_Rule_impl_Rule_L26_eq k _ _ _ _) (EvP.decY (by omega) (EvP.yes (by omega) (EvP.yes (by omega) ?_)))
    rw [Int.toNat_natCast, drop_cons l i ([], []) (by omega)]
    refine EvP.ite (fun h' => EvP.now ?_) (fun h' => ?_)
    · simp only [Bool.and_eq_true, decide_eq_true_eq] at h'
      have e : x = l.getD i ([], []) := Prod.ext h'.1 h'.2
      exact ⟨fun h => absurd h (by omega), fun h => absurd (e ▸ List.mem_cons_self) h⟩
    · have e : ¬ x = l.getD i ([], []) := fun e => h' (by rw [← e]; simp)
      rw [w64 (by omega) (by omega)]
      refine (indexRule_loop l hl x n (i + 1) (by omega)).mono fun r hr => ?_
      rw [hr, List.mem_cons, not_or]
      exact ⟨fun h => ⟨e, h⟩, fun h => h.2⟩
theorem hasRule_ev (l : List (List UInt8 × List UInt8)) (hl : l.length ≤ 1000) (x y : List UInt8) : EvP (fun k => slices_Contains_Simpl_Rule_impl_Rule k l x y) (fun r => r = true ↔ (x, y) ∈ l) := by
  refine EvP.fn (fun k => slices_Contains_Simpl_Rule_impl_Rule_eq k _ _ _) (EvP.bind (P := fun r => r < 0 ↔ (x, y) ∉ l) (EvP.fn (fun k => slices_Index_Simpl_Rule_impl_Rule_eq k _ _ _) ((indexRule_loop l hl (x, y) l.length 0 (by omega)).mono fun r hr => by rw [hr, List.drop_zero])) fun r hr => EvP.now ?_)
  rw [decide_eq_true_iff]
  by_cases h : (x, y) ∈ l
  · exact ⟨fun _ => h, fun _ => by have := mt hr.1 (fun h' => h' h); omega⟩
  · exact ⟨fun h0 => absurd (hr.2 h) (by omega), fun h' => absurd h' h⟩
/-- From a place on. -/
def okFrom (l : List (List UInt8 × List UInt8)) (i : Nat) : Prop := ∀ j, i ≤ j → j < l.length → ruleOk (l.getD j ([], [])) = true ∧ l.getD j ([], []) ∉ l.take j
theorem okFrom_step {l : List (List UInt8 × List UInt8)} {i : Nat} (hi : i < l.length) : okFrom l i ↔ ((ruleOk (l.getD i ([], [])) = true ∧ l.getD i ([], []) ∉ l.take i) ∧ okFrom l (i + 1)) := by
  constructor
  · intro h; exact ⟨h i (Nat.le_refl _) hi, fun j hj hl => h j (by omega) hl⟩
  · rintro ⟨h1, h2⟩ j hj hl
    rcases Nat.eq_or_lt_of_le hj with e | e
    · rw [← e]; exact h1
    · exact h2 j e hl
theorem implGramOk_loop (g : GramT) (hg : g.2.length ≤ 8) : ∀ (n i : Nat), i + n = g.2.length → EvP (fun k => impl_GramOk_L58 k g g.2 (g.2.length : Int) (i : Int)) (fun r => r = true ↔ okFrom g.2 i)
  | 0, i, h => by
    refine EvP.fn (fun k => impl_GramOk_L58_eq k _ _ _ _) (EvP.decN (by omega) (EvP.now ?_))
    exact ⟨fun _ j h1 h2 => by omega, fun _ => rfl⟩
  | n + 1, i, h => by
    refine EvP.fn (fun k => impl_GramOk_L58_eq k _ _ _ _) (EvP.decY (by omega) (EvP.yes (by omega) (EvP.yes (by omega) ?_)))
    rw [Int.toNat_natCast, okFrom_step (by omega)]
    refine EvP.bind (implSignBig_ev _) fun b hb => ?_
    subst hb
    cases h1 : signBig (g.2.getD i ([], [])).1 with
    | false => exact EvP.no (by simp) (EvP.now ⟨fun h => by simp at h, fun h => by have := h.1.1; simp only [ruleOk, h1, Bool.false_and] at this; cases this⟩)
    | true =>
      refine EvP.yes rfl (EvP.bind (areSigns_ev _) fun b hb => ?_)
      subst hb
      cases h2 : ((g.2.getD i ([], [])).2.all sign && decide ((g.2.getD i ([], [])).2.length ≤ 4)) with
      | false => exact EvP.no (by simp) (EvP.now ⟨fun h => by simp at h, fun h => by have := h.1.1; simp only [ruleOk, h1, h2] at this; simp at this⟩)
      | true =>
        have hok : ruleOk (g.2.getD i ([], [])) = true := by simp only [ruleOk, h1, h2, Bool.and_self]
        refine EvP.yes rfl (EvP.yes (by omega) (EvP.yes (by omega) (EvP.yes (by show (i : Int) ≤ (g.2.length : Int); omega) ?_)))
        refine EvP.bind (hasRule_ev _ (by simp; omega) _ _) fun b hb => ?_
        have e : List.drop (Int.toNat 0) (List.take i g.2) = g.2.take i := rfl
        rw [e] at hb
        cases b with
        | true => exact EvP.yes rfl (EvP.now ⟨fun h => by simp at h, fun h => absurd (hb.1 rfl) h.1.2⟩)
        | false =>
          refine EvP.no (by simp) ?_
          rw [w64 (by omega) (by omega)]
          refine (implGramOk_loop g hg n (i + 1) (by omega)).mono fun r hr => ?_
          rw [hr]
          exact ⟨fun h => ⟨⟨hok, fun h' => by have := hb.2 h'; simp at this⟩, h⟩, fun h => h.2⟩
theorem implGramOk_ev (g : GramT) : EvP (fun k => impl_GramOk k g.1 g.2) (fun r => r = true ↔ GramOkP g) := by
  refine EvP.fn (fun k => impl_GramOk_eq k _ _) (EvP.bind (implSignBig_ev _) fun b hb => ?_)
  subst hb
  cases h1 : signBig g.1 with
  | false => exact EvP.no (by simp) (EvP.now ⟨fun h => by simp at h, fun h => by rw [h.1] at h1; cases h1⟩)
  | true =>
    refine EvP.yes rfl (EvP.dec (fun h8 => EvP.now ⟨fun h => by simp at h, fun h => by have := h.2.1; omega⟩) (fun h8 => ?_))
    refine (implGramOk_loop g (by omega) g.2.length 0 (by omega)).mono fun r hr => ?_
    rw [hr]
    exact ⟨fun h => ⟨h1, by omega, fun j hj => h j (Nat.zero_le _) hj⟩, fun h j _ hj => h.2.2 j hj⟩
theorem specGramOk_loop (g : GramT) (hg : g.2.length ≤ 8) (hs : ∀ x ∈ g.2, x.2.length ≤ 1000000) : ∀ (n i : Nat), i + n = g.2.length → EvP (fun k => spec_GramOk_L58 k g (i : Int)) (fun r => r = true ↔ okFrom g.2 i)
  | 0, i, h => by
    refine EvP.fn (fun k => spec_GramOk_L58_eq k _ _) (EvP.decN (by omega) (EvP.now ?_))
    exact ⟨fun _ j h1 h2 => by omega, fun _ => rfl⟩
  | n + 1, i, h => by
    refine EvP.fn (fun k => spec_GramOk_L58_eq k _ _) (EvP.decY (by omega) (EvP.yes (by omega) (EvP.yes (by omega) ?_)))
    rw [Int.toNat_natCast, okFrom_step (by omega)]
    refine EvP.bind (specSignBig_ev _) fun b hb => ?_
    subst hb
    cases h1 : signBig (g.2.getD i ([], [])).1 with
    | false => exact EvP.no (by simp) (EvP.now ⟨fun h => by simp at h, fun h => by have := h.1.1; simp only [ruleOk, h1, Bool.false_and] at this; cases this⟩)
    | true =>
      refine EvP.yes rfl (EvP.yes (by omega) (EvP.yes (by omega) (EvP.bind (l1Right_ev _ (hs _ (getD_mem _ _ _ (by omega)))) fun b hb => ?_)))
      subst hb
      cases h2 : ((g.2.getD i ([], [])).2.all sign && decide ((g.2.getD i ([], [])).2.length ≤ 4)) with
      | false => exact EvP.no (by simp) (EvP.now ⟨fun h => by simp at h, fun h => by have := h.1.1; simp only [ruleOk, h1, h2] at this; simp at this⟩)
      | true =>
        have hok : ruleOk (g.2.getD i ([], [])) = true := by simp only [ruleOk, h1, h2, Bool.and_self]
        refine EvP.yes rfl (EvP.yes (by omega) (EvP.yes (by omega) (EvP.yes (by show (i : Int) ≤ (g.2.length : Int); omega) (EvP.yes (by omega) (EvP.yes (by omega) ?_)))))
        refine EvP.bind (place_ev _ (by simp; omega) _ _) fun b hb => ?_
        have e : List.drop (Int.toNat 0) (List.take i g.2) = g.2.take i := rfl
        rw [e] at hb
        refine EvP.dec (fun h0 => EvP.now ⟨fun h => by simp at h, fun h => absurd (hb.2 h.1.2) (by omega)⟩) (fun h0 => ?_)
        rw [w64 (by omega) (by omega)]
        refine (specGramOk_loop g hg hs n (i + 1) (by omega)).mono fun r hr => ?_
        rw [hr]
        exact ⟨fun h => ⟨⟨hok, hb.1 (by omega)⟩, h⟩, fun h => h.2⟩
theorem specGramOk_ev (g : GramT) (hs : ∀ x ∈ g.2, x.2.length ≤ 1000000) : EvP (fun k => spec_GramOk k g.1 g.2) (fun r => r = true ↔ GramOkP g) := by
  refine EvP.fn (fun k => spec_GramOk_eq k _ _) (EvP.bind (specSignBig_ev _) fun b hb => ?_)
  subst hb
  cases h1 : signBig g.1 with
  | false => exact EvP.no (by simp) (EvP.now ⟨fun h => by simp at h, fun h => by rw [h.1] at h1; cases h1⟩)
  | true =>
    refine EvP.yes rfl (EvP.dec (fun h8 => EvP.now ⟨fun h => by simp at h, fun h => by have := h.2.1; omega⟩) (fun h8 => ?_))
    refine (specGramOk_loop g (by omega) hs g.2.length 0 (by omega)).mono fun r hr => ?_
    rw [hr]
    exact ⟨fun h => ⟨h1, by omega, fun j hj => h j (Nat.zero_le _) hj⟩, fun h j _ hj => h.2.2 j hj⟩
/-! trees that are right -/
abbrev t0 : Tr := Tr.mk [] 0 []
/-- A tree by rules, so deep at most. -/
def shape (g : GramT) : Nat → Tr → Prop
  | 0, _ => False
  | d + 1, t => (signSmall t.s = true ∧ t.r = -1 ∧ t.k = []) ∨ (signSmall t.s = false ∧ 0 ≤ t.r ∧ t.r < g.2.length ∧ (g.2.getD t.r.toNat ([], [])).1 = t.s ∧ t.k.length = (g.2.getD t.r.toNat ([], [])).2.length ∧
      ∀ i, i < t.k.length → (t.k.getD i t0).s = List.drop i (List.take (i + 1) (g.2.getD t.r.toNat ([], [])).2) ∧ shape g d (t.k.getD i t0))
theorem shape.more {g : GramT} : ∀ {d : Nat} {t : Tr}, shape g d t → shape g (d + 1) t
  | d + 1, t, h => by
    rcases h with h | ⟨h1, h2, h3, h4, h5, h6⟩
    · exact .inl h
    · exact .inr ⟨h1, h2, h3, h4, h5, fun i hi => ⟨(h6 i hi).1, (h6 i hi).2.more⟩⟩
/-- How many signs, so deep. -/
def sz : Nat → Tr → Nat
  | 0, _ => 1
  | d + 1, t => 1 + (t.k.map (sz d)).sum
theorem sz_pos : ∀ (d : Nat) (t : Tr), 1 ≤ sz d t
  | 0, _ => Nat.le_refl _
  | d + 1, t => by unfold sz; omega
theorem sum_le (l : List Tr) (f : Tr → Nat) (c : Nat) (h : ∀ u ∈ l, f u ≤ c) : (l.map f).sum ≤ l.length * c := by
  induction l with
  | nil => simp
  | cons a l ih =>
    have h1 := h a List.mem_cons_self
    have h2 := ih fun u hu => h u (List.mem_cons_of_mem _ hu)
    simp only [List.map_cons, List.sum_cons, List.length_cons, Nat.succ_mul]
    omega
theorem mem_sum (l : List Tr) (f : Tr → Nat) (u : Tr) (h : u ∈ l) : f u ≤ (l.map f).sum := by
  induction l with
  | nil => cases h
  | cons a l ih =>
    simp only [List.map_cons, List.sum_cons]
    rcases List.mem_cons.1 h with rfl | h
    · omega
    · have := ih h; omega
theorem sz_le : ∀ (n : Nat) (t : Tr), Slim 6 n t → ∀ d, sz d t ≤ 7 ^ n
  | n + 1, t, h, 0 => Nat.one_le_pow _ _ (by omega)
  | n + 1, t, h, d + 1 => by
    obtain ⟨_, _, _, h4, h5⟩ := h
    have h6 := sum_le t.k (sz d) (7 ^ n) (fun u hu => sz_le n u (h5 u hu) d)
    have h7 : 1 ≤ 7 ^ n := Nat.one_le_pow _ _ (by omega)
    have h8 : t.k.length * 7 ^ n ≤ 6 * 7 ^ n := Nat.mul_le_mul_right _ h4
    unfold sz
    rw [Nat.pow_succ]; omega
theorem sz_more {w : Nat} : ∀ (n : Nat) (t : Tr), Slim w n t → ∀ d, n ≤ d → sz d t = sz n t
  | n + 1, t, h, d + 1, hd => by
    unfold sz
    congr 2
    exact List.map_congr_left fun u hu => sz_more n u (h.2.2.2.2 u hu) d (by omega)
theorem drop_sum (l : List Tr) (f : Tr → Nat) (i : Nat) (hi : i < l.length) : ((l.drop i).map f).sum = f (l.getD i t0) + ((l.drop (i + 1)).map f).sum := by
  rw [drop_cons l i t0 hi, List.map_cons, List.sum_cons]
theorem drop_sum_le (l : List Tr) (f : Tr → Nat) : ∀ (n i : Nat), i + n = l.length → ((l.drop i).map f).sum ≤ (l.map f).sum
  | n, 0, _ => by rw [List.drop_zero]; exact Nat.le_refl _
  | n, i + 1, h => by
    have := drop_sum_le l f (n + 1) i (by omega)
    rw [drop_sum l f i (by omega)] at this
    omega
/-- A tree that is right. -/
def TreeOkP (g : GramT) (t : Tr) : Prop := GramOkP g ∧ shape g 20 t ∧ sz 20 t ≤ 60
/-! the small signs of a tree -/
theorem smallE_eq (s : List UInt8) : smallE s = signSmall s := by
  match s with
  | [] => rfl
  | [c] => rfl
  | _ :: _ :: _ => rfl
theorem sanes_of (n : Nat) (ih : ∀ t : Tr, Slim 6 n t → saneE t = true) : ∀ l : List Tr, (∀ u ∈ l, Slim 6 n u) → saneEs l = true
  | [], _ => rfl
  | t :: l, h => by
    unfold saneEs
    rw [ih t (h t List.mem_cons_self), sanes_of n ih l fun u hu => h u (List.mem_cons_of_mem _ hu)]; rfl
theorem sane_of : ∀ (n : Nat) (t : Tr), Slim 6 n t → saneE t = true
  | n + 1, t, h => by
    obtain ⟨s, r, k⟩ := t
    obtain ⟨_, _, _, h4, h5⟩ := h
    have h4 : k.length ≤ 6 := h4
    unfold saneE
    rw [sanes_of n (sane_of n) k h5, decide_eq_true (by omega)]; rfl
theorem signSmall_len {s : List UInt8} (h : signSmall s = true) : s.length = 1 := by
  match s, h with
  | [c], _ => rfl
theorem yields_le (n : Nat) (ih : ∀ t : Tr, Slim 6 n t → (yieldE t).length ≤ sz n t) : ∀ l : List Tr, (∀ u ∈ l, Slim 6 n u) → (yieldEs l).length ≤ (l.map (sz n)).sum
  | [], _ => Nat.le_refl _
  | t :: l, h => by
    have h1 := ih t (h t List.mem_cons_self)
    have h2 := yields_le n ih l fun u hu => h u (List.mem_cons_of_mem _ hu)
    unfold yieldEs
    rw [List.length_append, List.map_cons, List.sum_cons]; omega
theorem yield_le : ∀ (n : Nat) (t : Tr), Slim 6 n t → (yieldE t).length ≤ sz n t
  | n + 1, t, h => by
    obtain ⟨s, r, k⟩ := t
    have h2 := yields_le n (yield_le n) k h.2.2.2.2
    unfold yieldE
    cases hs : smallE s with
    | true =>
      have := signSmall_len ((smallE_eq s) ▸ hs)
      show s.length ≤ 1 + _
      omega
    | false => show (yieldEs k).length ≤ 1 + (k.map (sz n)).sum; omega
/-! the parts of a tree -/
abbrev Spot := Tr × (List UInt8 × Int × Int)
def spKs (f : Tr → Int → List Spot) : List Tr → Int → List Spot
  | [], _ => []
  | u :: l, p => f u p ++ spKs f l (p + ((yieldE u).length : Nat))
def spF : Nat → Tr → Int → List Spot
  | 0, _, _ => []
  | n + 1, t, p => match signBig t.s with | false => [] | true => (t, t.s, p, p + ((yieldEs t.k).length : Nat)) :: spKs (spF n) t.k p
theorem yieldE_small {t : Tr} (h : signSmall t.s = true) : yieldE t = t.s := by
  obtain ⟨s, r, k⟩ := t
  have h : signSmall s = true := h
  unfold yieldE
  rw [smallE_eq, h]
theorem yieldE_kids {t : Tr} (h : signSmall t.s = false) : yieldE t = yieldEs t.k := by
  obtain ⟨s, r, k⟩ := t
  have h : signSmall s = false := h
  unfold yieldE
  rw [smallE_eq, h]
theorem big_not_small {s : List UInt8} (h : signBig s = true) : signSmall s = false := by
  match s, h with
  | [c], h =>
    have h : big c = true := h
    show small c = false
    unfold big at h
    unfold small
    simp only [Bool.and_eq_true, decide_eq_true_eq] at h
    simp only [Bool.and_eq_false_imp, decide_eq_true_eq, decide_eq_false_iff_not]
    omega
theorem yieldEs_append (a b : List Tr) : yieldEs (a ++ b) = yieldEs a ++ yieldEs b := by
  induction a with
  | nil => rfl
  | cons x a ih => show yieldE x ++ yieldEs (a ++ b) = yieldE x ++ yieldEs a ++ yieldEs b; rw [ih, List.append_assoc]
theorem yieldEs_take (k : List Tr) (i : Nat) (hi : i < k.length) : yieldEs (k.take (i + 1)) = yieldEs (k.take i) ++ yieldE (k.getD i t0) := by
  have e : k.take (i + 1) = k.take i ++ [k.getD i t0] := by
    rw [List.take_add_one, List.getD_eq_getElem?_getD, List.getElem?_eq_getElem hi]; rfl
  rw [e, yieldEs_append]
  show _ ++ (yieldE _ ++ []) = _
  rw [List.append_nil]
/-- Where a part stands. -/
def At (s : List UInt8) (p : Int) (x : Spot) : Prop := signBig x.1.s = true ∧ x.2.1 = x.1.s ∧ ∃ a b, s = a ++ yieldE x.1 ++ b ∧ x.2.2.1 = p + (a.length : Nat) ∧ x.2.2.2 = x.2.2.1 + ((yieldE x.1).length : Nat)
theorem At.wide {s : List UInt8} {p : Int} {x : Spot} (a b : List UInt8) (h : At s (p + (a.length : Nat)) x) : At (a ++ s ++ b) p x := by
  obtain ⟨h1, h2, c, d, h3, h4, h5⟩ := h
  refine ⟨h1, h2, a ++ c, d ++ b, ?_, ?_, h5⟩
  · rw [h3]; simp only [List.append_assoc]
  · rw [h4, List.length_append]; omega
theorem spKs_at (f : Tr → Int → List Spot) (hf : ∀ u p x, x ∈ f u p → At (yieldE u) p x) : ∀ (l : List Tr) (p : Int) (x : Spot), x ∈ spKs f l p → At (yieldEs l) p x
  | [], p, x, h => by cases h
  | u :: l, p, x, h => by
    rcases List.mem_append.1 h with h | h
    · have := (hf u p x h)
      have h2 : At (yieldE u) (p + (([] : List UInt8).length : Nat)) x := by simpa using this
      have := h2.wide [] (yieldEs l)
      exact this
    · have := (spKs_at f hf l _ x h).wide (yieldE u) []
      rw [List.append_nil] at this
      exact this
theorem spF_at : ∀ (n : Nat) (t : Tr) (p : Int) (x : Spot), x ∈ spF n t p → At (yieldE t) p x
  | n + 1, t, p, x, h => by
    unfold spF at h
    cases hb : signBig t.s with
    | false => rw [hb] at h; cases h
    | true =>
      rw [hb] at h
      have e := yieldE_kids (big_not_small hb)
      rcases List.mem_cons.1 h with rfl | h
      · exact ⟨hb, rfl, [], [], by simp, by simp, by rw [e]⟩
      · rw [e]; exact spKs_at _ (spF_at n) _ _ _ h
theorem At.cut {s : List UInt8} {x : Spot} (h : At s 0 x) : 0 ≤ x.2.2.1 ∧ x.2.2.1 ≤ x.2.2.2 ∧ x.2.2.2 ≤ (s.length : Nat) ∧ List.drop x.2.2.1.toNat (List.take x.2.2.2.toNat s) = yieldE x.1 := by
  obtain ⟨h1, h2, a, b, h3, h4, h5⟩ := h
  subst h3
  have e1 : x.2.2.1.toNat = a.length := by omega
  have e2 : x.2.2.2.toNat = (a ++ yieldE x.1).length := by rw [List.length_append]; omega
  refine ⟨by omega, by omega, ?_, ?_⟩
  · rw [List.length_append, List.length_append]; omega
  · rw [e1, e2, List.take_left, List.drop_left]
theorem At.same {s : List UInt8} {x y : Spot} (h : At s 0 x) (h' : At s 0 y) (e : x.2 = y.2) : yieldE x.1 = yieldE y.1 ∧ x.1.s = y.1.s := by
  have h1 := h.cut
  have h2 := h'.cut
  rw [e] at h1
  exact ⟨h1.2.2.2.symm.trans h2.2.2.2, by rw [← h.2.1, ← h'.2.1, e]⟩
theorem spKs_len (f : Tr → Int → List Spot) (h : Tr → Nat) : ∀ (l : List Tr) (p : Int), (∀ u ∈ l, ∀ p, (f u p).length ≤ h u) → (spKs f l p).length ≤ (l.map h).sum
  | [], p, _ => Nat.le_refl _
  | u :: l, p, hf => by
    have h1 := hf u List.mem_cons_self p
    have h2 := spKs_len f h l (p + ((yieldE u).length : Nat)) fun u hu => hf u (List.mem_cons_of_mem _ hu)
    unfold spKs
    rw [List.length_append, List.map_cons, List.sum_cons]; omega
theorem spF_len : ∀ (n : Nat) (t : Tr) (p : Int), (spF n t p).length ≤ sz n t
  | 0, _, _ => Nat.zero_le _
  | n + 1, t, p => by
    have := spKs_len (spF n) (sz n) t.k p fun u _ p => spF_len n u p
    have es : sz (n + 1) t = 1 + (t.k.map (sz n)).sum := rfl
    unfold spF
    split
    · exact Nat.zero_le _
    · rw [List.length_cons]; omega
theorem spF_slim : ∀ (n : Nat) (t : Tr) (p : Int), Slim 6 n t → ∀ x ∈ spF n t p, Slim 6 n x.1
  | n + 1, t, p, h, x, hx => by
    have ks : ∀ (l : List Tr) (p : Int), (∀ u ∈ l, Slim 6 n u) → x ∈ spKs (spF n) l p → Slim 6 n x.1 := by
      intro l
      induction l with
      | nil => intro p _ h; cases h
      | cons u l ih =>
        intro p hl hx
        rcases List.mem_append.1 hx with hx | hx
        · exact spF_slim n u p (hl u List.mem_cons_self) x hx
        · exact ih _ (fun u hu => hl u (List.mem_cons_of_mem _ hu)) hx
    unfold spF at hx
    split at hx
    · cases hx
    · rcases List.mem_cons.1 hx with rfl | hx
      · exact h
      · exact (ks t.k p h.2.2.2.2 hx).more (Nat.le_refl _) (by omega)
/-! the small signs of a tree: spec -/
theorem drop1 {α : Type} (l : List α) (i : Nat) (d : α) (h : i < l.length) : List.drop i (List.take (i + 1) l) = [l.getD i d] := by
  rw [List.drop_take, Nat.add_sub_cancel_left, drop_cons l i d h]; rfl
theorem l3Yield_ev : ∀ (n : Nat), n ≤ 10 → ∀ (t : Tr), Slim 6 n t → EvP (fun k => spec_l3Yield k t.s t.r t.k) (fun r => r = yieldE t)
  | n + 1, hn, t, h => by
    have hb := yields_le n (yield_le n) t.k h.2.2.2.2
    have hs := sz_le (n + 1) t h (n + 1)
    have es : sz (n + 1) t = 1 + (t.k.map (sz n)).sum := rfl
    have hb2 : 7 ^ (n + 1) ≤ 7 ^ 10 := Nat.pow_le_pow_right (by omega) hn
    have h5 := h.2.2.2.2
    have h4 := h.2.2.2.1
    have loop : ∀ (q i : Nat), i + q = t.k.length → EvP (fun k => spec_l3Yield_L122 k (t.s, t.r, t.k) (yieldEs (t.k.take i)) (i : Int)) (fun r => r = yieldEs t.k) := by
      intro q
      induction q with
      | zero =>
        intro i hi
        refine EvP.fn (fun k => spec_l3Yield_L122_eq k _ _ _) (EvP.decN (by show ¬ (i : Int) < (t.k.length : Int); omega) (EvP.now ?_))
        rw [List.take_of_length_le (by omega)]
      | succ q ih =>
        intro i hi
        have hi1 : (i : Int) < (t.k.length : Int) := by omega
        refine EvP.fn (fun k => spec_l3Yield_L122_eq k _ _ _) (EvP.decY hi1 (EvP.yes (by omega) (EvP.yes hi1 ?_)))
        rw [Int.toNat_natCast]
        refine EvP.bind (l3Yield_ev n (by omega) (t.k.getD i t0) (h5 _ (getD_mem _ _ _ (by omega)))) fun x hx => ?_
        subst hx
        have e := yieldEs_take t.k i (by omega)
        have hl : (yieldEs (t.k.take (i + 1))).length ≤ (yieldEs t.k).length := by
          have : yieldEs t.k = yieldEs (t.k.take (i + 1)) ++ yieldEs (t.k.drop (i + 1)) := by rw [← yieldEs_append, List.take_append_drop]
          rw [this, List.length_append]; omega
        rw [e, List.length_append] at hl
        refine EvP.yes (by omega) ?_
        rw [w64 (by omega) (by omega)]
        have := ih (i + 1) (by omega)
        rw [e] at this
        exact this
    refine EvP.fn (fun k => spec_l3Yield_eq k _ _ _) (EvP.bind (signSmall_ev _) fun b hb => ?_)
    subst hb
    cases hsm : signSmall t.s with
    | true => exact EvP.yes rfl (EvP.now (yieldE_small hsm).symm)
    | false => rw [yieldE_kids hsm]; exact EvP.no (by simp) (loop t.k.length 0 (by omega))
/-! texts -/
def textOk (s : List UInt8) : Bool := s.all small && decide (s.length ≤ 8)
theorem specTextOk_loop (s : List UInt8) (hs : s.length < 4611686018427387904) : ∀ (n i : Nat), i + n = s.length → EvP (fun k => spec_TextOk_L26 k s (i : Int)) (fun r => r = ((s.drop i).all small && decide (s.length ≤ 8)))
  | 0, i, h => by
    refine EvP.fn (fun k => spec_TextOk_L26_eq k s _) (EvP.dec (fun h' => absurd h' (by omega)) (fun _ => EvP.now ?_))
    have e : decide ((s.length : Int) ≤ 8) = decide (s.length ≤ 8) := by congr 1; exact propext ⟨fun h => by omega, fun h => by omega⟩
    rw [e, List.drop_eq_nil_of_le (by omega)]; simp
  | n + 1, i, h => by
    refine EvP.fn (fun k => spec_TextOk_L26_eq k s _) (EvP.dec (fun _ => EvP.yes (by omega) (EvP.yes (by omega) ?_)) (fun h' => absurd (show (i : Int) < s.length by omega) h'))
    rw [Int.toNat_natCast]
    refine EvP.bind (l1Small_ev _) fun b hb => ?_
    subst hb
    rw [drop_cons s i 0 (by omega)]
    cases hc : small (s.getD i 0) with
    | false => exact EvP.yes rfl (EvP.now (by rw [List.all_cons, hc]; rfl))
    | true =>
      refine EvP.no (by simp) ?_
      rw [w64 (by omega) (by omega)]
      have := specTextOk_loop s hs n (i + 1) (by omega)
      refine this.mono fun r hr => by rw [hr, List.all_cons, hc, Bool.true_and]
theorem specTextOk_ev (s : List UInt8) (hs : s.length < 4611686018427387904) : EvP (fun k => spec_TextOk k s) (fun r => r = textOk s) := by
  refine EvP.fn (fun k => spec_TextOk_eq k s) ((specTextOk_loop s hs s.length 0 (by omega)).mono fun r hr => by rw [hr]; rfl)
theorem l4Text_loop : ∀ (n m : Nat) {b : List Int} {p : Int} (t : List UInt8) (i N : Int), i + n = N → 0 ≤ i → N ≤ 1000 → Rd (m + n) b p → t.length ≤ i → EvP (fun k => spec_l4Text_L58 k (b, p) N t i) (fun r => r.1.length ≤ N ∧ Rd m r.2.1 r.2.2)
  | 0, m, b, p, t, i, N, h, h0, hN, hr, ht => by
    refine EvP.fn (fun k => spec_l4Text_L58_eq k _ _ _ _) (EvP.decN (by omega) (EvP.now ⟨by show (t.length : Int) ≤ N; omega, hr⟩))
  | n + 1, m, b, p, t, i, N, h, h0, hN, hr, ht => by
    refine EvP.fn (fun k => spec_l4Text_L58_eq k _ _ _ _) (EvP.decY (by omega) ?_)
    refine EvP.bind (of_ev (m := m + n) (hr.less (by omega)) _ (by simp) (by simp)) fun a ha => ?_
    have hl : a.1.length = 1 := by
      have := ha.1
      simp only [List.mem_cons, List.not_mem_nil, or_false] at this
      rcases this with h | h | h | h | h | h <;> rw [h] <;> rfl
    refine EvP.yes (by omega) ?_
    rw [w64 (by omega) (by omega)]
    exact l4Text_loop n m _ (i + 1) N (by omega) (by omega) hN ha.2 (by simp [hl]; omega)
theorem l4Text_ev {m n : Nat} {b : List Int} {p : Int} {N : Int} (h0 : 0 ≤ N) (hN : N ≤ n) (hn : n ≤ 1000) (hr : Rd (m + n) b p) : EvP (fun k => spec_l4Text k b p N) (fun r => r.1.length ≤ N ∧ Rd m r.2.1 r.2.2) := by
  obtain ⟨N', rfl⟩ := Int.eq_ofNat_of_zero_le h0
  exact EvP.fn (fun k => spec_l4Text_eq k _ _ _) (l4Text_loop N' m [] 0 _ (by omega) (by omega) (by omega) (hr.less (by omega)) (by simp))
/-! automata drawn -/
abbrev AutoT := Int × List Bool × List (List Int)
/-- Not large. -/
def Sml (a : AutoT) : Prop := a.2.1.length ≤ 10 ∧ a.2.2.length ≤ 10 ∧ ∀ r ∈ a.2.2, r.length ≤ 10
theorem mE {n : Nat} (h : n ≤ 1000000) : n < maxLenE := by unfold maxLenE; omega
theorem specAutoOf_loop (s : List UInt8) (hs : s.length ≤ 5) (hok : s.all small = true) (x : AutoT) : ∀ (n i : Nat) (y : AutoT), i + n = s.length + 1 → y.2.1.length ≤ i → y.2.2.length ≤ i → (∀ r ∈ y.2.2, r.length ≤ 10) →
    EvP (fun k => spec_AutoOf_L122 k s x y (i : Int)) (fun r => r.2 = true ∧ Sml r.1)
  | 0, i, y, h, h1, h2, h3 => by
    refine EvP.fn (fun k => spec_AutoOf_L122_eq k _ _ _ _) (EvP.decN (by omega) (EvP.now ⟨rfl, ?_, ?_, h3⟩))
    · show y.2.1.length ≤ 10; omega
    · show y.2.2.length ≤ 10; omega
  | n + 1, i, y, h, h1, h2, h3 => by
    have next : ∀ (row : List Int), row.length ≤ 10 → EvP (fun k => spec_AutoOf_L7827 k s (x.fst, x.snd.fst, x.snd.snd) (y.fst, y.snd.fst, y.snd.snd) (i : Int) row) (fun r => r.2 = true ∧ Sml r.1) := fun row hrow => by
      refine EvP.fn (fun k => spec_AutoOf_L7827_eq k _ _ _ _ _) (EvP.yes (mE (by simp; omega)) (EvP.yes (mE (by simp; omega)) ?_))
      rw [w64 (by omega) (by omega)]
      refine specAutoOf_loop s hs hok (x.fst, x.snd.fst, x.snd.snd) n (i + 1) _ (by omega) (by simp; omega) (by simp; omega) (fun r hr => ?_)
      rcases List.mem_append.1 hr with hr | hr
      · exact h3 r hr
      · rw [List.mem_singleton.1 hr]; exact hrow
    refine EvP.fn (fun k => spec_AutoOf_L122_eq k _ _ _ _) (EvP.decY (by omega) (EvP.dec (fun h' => ?_) (fun h' => next _ (by simp))))
    have hc : small (s.getD i 0) = true := List.all_eq_true.1 hok _ (getD_mem s i 0 (by omega))
    simp only [small, Bool.and_eq_true, decide_eq_true_eq] at hc
    refine EvP.yes (by omega) (EvP.yes h' ?_)
    rw [Int.toNat_natCast]
    have e : IntKind.i64.wrap (IntKind.u8.wrap (((s.getD i 0).toNat : Int) - 97)) = ((s.getD i 0).toNat : Int) - 97 := by
      rw [w8 (by omega) (by omega), w64 (by omega) (by omega)]
    rw [e]
    exact EvP.yes (by omega) (EvP.yes (by show ((s.getD i 0).toNat : Int) - 97 < 4; omega) (next _ (by simp)))
theorem specAutoOf_ev (s : List UInt8) (hs : s.length ≤ 1000) : EvP (fun k => spec_AutoOf k s) (fun r => Sml r.1) := by
  refine EvP.fn (fun k => spec_AutoOf_eq k s) (EvP.bind (specTextOk_ev s (by omega)) fun b hb => ?_)
  subst hb
  have z : Sml ((0 : Int), ([] : List Bool), ([] : List (List Int))) := ⟨by simp, by simp, fun r hr => by simp at hr⟩
  cases h : textOk s with
  | false => exact EvP.no (by simp) (EvP.now z)
  | true =>
    refine EvP.yes rfl (EvP.dec (fun _ => EvP.now z) (fun h' => ?_))
    simp only [textOk, Bool.and_eq_true] at h
    exact (specAutoOf_loop s (by omega) h.1 _ (s.length + 1) 0 _ (by omega) (by simp) (by simp) (fun r hr => by simp at hr)).mono fun r hr => hr.2
/-- Rows of four. -/
def Fours (a : AutoT) : Prop := a.2.1.length ≤ 6 ∧ 1 ≤ a.2.2.length ∧ a.2.2.length ≤ 6 ∧ ∀ r ∈ a.2.2, r.length = 4
theorem Fours.sml {a : AutoT} (h : Fours a) : Sml a := ⟨by have := h.1; omega, by have := h.2.2.1; omega, fun r hr => by rw [h.2.2.2 r hr]; omega⟩
theorem set_mem {α : Type} {l : List α} {i : Nat} {x y : α} (h : y ∈ l.set i x) : y = x ∨ y ∈ l := by
  rcases List.mem_or_eq_of_mem_set h with h | h
  · exact .inr h
  · exact .inl h
/-! valid automata -/
def goalB (n : Nat) (x : Int) : Bool := decide (-1 ≤ x) && decide (x < n)
def rowOk (n : Nat) (row : List Int) : Bool := decide (row.length = 4) && row.all (goalB n)
def autoOk (a : AutoT) : Bool := decide (1 ≤ a.2.1.length) && decide (a.2.1.length ≤ 6) && decide (a.2.2.length = a.2.1.length) && decide (0 ≤ a.1) && decide (a.1 < a.2.1.length) && a.2.2.all (rowOk a.2.1.length)
theorem goal_ev (a : AutoT) (x : Int) : EvP (fun k => impl_Auto_isGoal k a.1 a.2.1 a.2.2 x) (fun r => r = goalB a.2.1.length x) := by
  refine EvP.fn (fun k => impl_Auto_isGoal_eq k _ _ _ _) (EvP.dec (fun h => EvP.now (by simp [goalB, h])) (fun h => EvP.now (by simp [goalB, h])))
theorem badGoal_ev (a : AutoT) (x : Int) : EvP (fun k => impl_AutoOk_1_1 k x a.1 a.2.1 a.2.2) (fun r => r = !goalB a.2.1.length x) := by
  refine EvP.fn (fun k => impl_AutoOk_1_1_eq k _ _ _ _) (EvP.bind (goal_ev a x) fun b hb => EvP.now ?_)
  rw [hb]; cases goalB a.2.1.length x <;> rfl
theorem badRow_loop (a : AutoT) (row : List Int) (hr : row.length ≤ 1000) : ∀ (n i : Nat), i + n = row.length → EvP (fun k => slices_IndexFunc_Sint_int_L26 k row a.1 a.2.1 a.2.2 (row.length : Int) (i : Int)) (fun r => decide (0 ≤ r) = !(row.drop i).all (goalB a.2.1.length))
  | 0, i, h => by
    refine EvP.fn (fun k => slices_IndexFunc_Sint_int_L26_eq k _ _ _ _ _ _) (EvP.decN (by omega) (EvP.now ?_))
    rw [List.drop_eq_nil_of_le (by omega)]; rfl
  | n + 1, i, h => by
    refine EvP.fn (fun k => slices_IndexFunc_Sint_int_L26_eq k _ _ _ _ _ _) (EvP.decY (by omega) (EvP.yes (by omega) (EvP.yes (by omega) ?_)))
    rw [Int.toNat_natCast, drop_cons row i 0 (by omega)]
    refine EvP.bind (badGoal_ev a _) fun b hb => ?_
    subst hb
    cases hc : goalB a.2.1.length (row.getD i 0) with
    | false => exact EvP.yes rfl (EvP.now (by rw [List.all_cons, hc]; simp))
    | true =>
      refine EvP.no (by simp) ?_
      rw [w64 (by omega) (by omega)]
      exact (badRow_loop a row hr n (i + 1) (by omega)).mono fun r hr => by rw [hr, List.all_cons, hc, Bool.true_and]
theorem badRow_ev (a : AutoT) (row : List Int) (hr : row.length ≤ 1000) : EvP (fun k => impl_AutoOk_1 k row a.1 a.2.1 a.2.2) (fun r => r = !rowOk a.2.1.length row) := by
  refine EvP.fn (fun k => impl_AutoOk_1_eq k _ _ _ _) (EvP.notF (fun h => ?_) (fun h => EvP.now ?_))
  · have h : row.length = 4 := by omega
    refine EvP.bind (P := fun r => r = !row.all (goalB a.2.1.length)) (EvP.fn (fun k => slices_ContainsFunc_Sint_int_eq k _ _ _ _) (EvP.bind (EvP.fn (fun k => slices_IndexFunc_Sint_int_eq k _ _ _ _) (badRow_loop a row hr row.length 0 (by omega))) fun b hb => EvP.now hb)) fun b hb => EvP.now ?_
    rw [hb]; simp [rowOk, h]
  · have h : ¬ row.length = 4 := by omega
    simp [rowOk, h]
theorem badRows_loop (a : AutoT) (ha : a.2.2.length ≤ 1000) (hr : ∀ r ∈ a.2.2, r.length ≤ 1000) : ∀ (n i : Nat), i + n = a.2.2.length → EvP (fun k => slices_IndexFunc_SSint_Sint_L26 k a.2.2 a.1 a.2.1 a.2.2 (a.2.2.length : Int) (i : Int)) (fun r => decide (0 ≤ r) = !(a.2.2.drop i).all (rowOk a.2.1.length))
  | 0, i, h => by
    refine EvP.fn (fun k => slices_IndexFunc_SSint_Sint_L26_eq k _ _ _ _ _ _) (EvP.decN (by omega) (EvP.now ?_))
    rw [List.drop_eq_nil_of_le (by omega)]; rfl
  | n + 1, i, h => by
    refine EvP.fn (fun k => slices_IndexFunc_SSint_Sint_L26_eq k _ _ _ _ _ _) (EvP.decY (by omega) (EvP.yes (by omega) (EvP.yes (by omega) ?_)))
    rw [Int.toNat_natCast, drop_cons a.2.2 i [] (by omega)]
    refine EvP.bind (badRow_ev a _ (hr _ (getD_mem _ _ _ (by omega)))) fun b hb => ?_
    subst hb
    cases hc : rowOk a.2.1.length (a.2.2.getD i []) with
    | false => exact EvP.yes rfl (EvP.now (by rw [List.all_cons, hc]; simp))
    | true =>
      refine EvP.no (by simp) ?_
      rw [w64 (by omega) (by omega)]
      exact (badRows_loop a ha hr n (i + 1) (by omega)).mono fun r hr => by rw [hr, List.all_cons, hc, Bool.true_and]
/-- Short enough to be told. -/
def Mid (a : AutoT) : Prop := a.2.1.length ≤ 1000 ∧ a.2.2.length ≤ 1000 ∧ ∀ r ∈ a.2.2, r.length ≤ 1000
theorem Sml.mid {a : AutoT} (h : Sml a) : Mid a := ⟨by have := h.1; omega, by have := h.2.1; omega, fun r hr => by have := h.2.2 r hr; omega⟩
theorem implAutoOk_ev (a : AutoT) (ha : Mid a) : EvP (fun k => impl_AutoOk k a.1 a.2.1 a.2.2) (fun r => r = autoOk a) := by
  refine EvP.fn (fun k => impl_AutoOk_eq k _ _ _) (EvP.decF (fun h1 => EvP.decF (fun h2 => EvP.notF (fun h3 => EvP.decF (fun h4 => EvP.dec (fun h5 => EvP.now ?_) (fun h5 => ?_)) (fun h => EvP.now ?_)) (fun h => EvP.now ?_)) (fun h => EvP.now ?_)) (fun h => EvP.now ?_))
  · have : ¬ a.1 < a.2.1.length := by omega
    simp [autoOk, this]
  · refine EvP.bind (P := fun r => r = !a.2.2.all (rowOk a.2.1.length)) (EvP.fn (fun k => slices_ContainsFunc_SSint_Sint_eq k _ _ _ _) (EvP.bind (EvP.fn (fun k => slices_IndexFunc_SSint_Sint_eq k _ _ _ _) (badRows_loop a ha.2.1 ha.2.2 a.2.2.length 0 (by omega))) fun b hb => EvP.now hb)) fun b hb => EvP.now ?_
    have e1 : 1 ≤ a.2.1.length := by omega
    have e2 : a.2.1.length ≤ 6 := by omega
    have e3 : a.2.2.length = a.2.1.length := by omega
    have e4 : 0 ≤ a.1 := by omega
    have e5 : a.1 < a.2.1.length := by omega
    rw [hb]; simp only [autoOk, e1, e2, e3, e4, e5, decide_true, Bool.true_and]
    cases a.2.2.all (rowOk a.2.1.length) <;> rfl
  · have : ¬ 0 ≤ a.1 := by omega
    simp [autoOk, this]
  · have : ¬ a.2.2.length = a.2.1.length := by omega
    simp [autoOk, this]
  · have : ¬ a.2.1.length ≤ 6 := by omega
    simp [autoOk, this]
  · have : ¬ 1 ≤ a.2.1.length := by omega
    simp [autoOk, this]
/-! products -/
abbrev PairsT := List (Int × Int)
/-- The place of two places among others, or -1. -/
def fi : PairsT → Int × Int → Int
  | [], _ => -1
  | x :: l, y => if x = y then 0 else (if fi l y < 0 then -1 else fi l y + 1)
theorem fi_range (y : Int × Int) : ∀ l : PairsT, (fi l y = -1 ∧ y ∉ l) ∨ (0 ≤ fi l y ∧ fi l y < l.length ∧ l.getD (fi l y).toNat (0, 0) = y)
  | [] => .inl ⟨rfl, by simp⟩
  | x :: l => by
    unfold fi
    split
    · rename_i h; right; exact ⟨by omega, by simp, by simpa using h⟩
    · rename_i h
      rcases fi_range y l with ⟨h1, h2⟩ | ⟨h1, h2, h3⟩
      · left; rw [h1]; exact ⟨rfl, by simp only [List.mem_cons, not_or]; exact ⟨Ne.symm h, h2⟩⟩
      · right
        have : ¬ fi l y < 0 := by omega
        rw [if_neg this]
        refine ⟨by omega, by simp; omega, ?_⟩
        have e : (fi l y + 1).toNat = (fi l y).toNat + 1 := by omega
        rw [e]; exact h3
theorem fi_step (l : PairsT) (y : Int × Int) (i : Nat) (h : i < l.length) (hd : ¬ l.getD i (0, 0) = y) : fi (l.drop i) y = (if fi (l.drop (i + 1)) y < 0 then -1 else fi (l.drop (i + 1)) y + 1) := by
  rw [drop_cons l i (0, 0) h, fi, if_neg hd]
/-- Where one goes. -/
def goR (a : AutoT) (p : Int) (k : Nat) : Int := (a.2.2.getD p.toNat []).getD k 0
def endR (a : AutoT) (p : Int) : Bool := a.2.1.getD p.toNat false
def cellB (a b : AutoT) (p : Int × Int) (k : Nat) (ps : PairsT) : PairsT × Int :=
  if 0 ≤ goR a p.1 k ∧ 0 ≤ goR b p.2 k then (if fi ps (goR a p.1 k, goR b p.2 k) < 0 then (ps ++ [(goR a p.1 k, goR b p.2 k)], (ps.length : Int)) else (ps, fi ps (goR a p.1 k, goR b p.2 k))) else (ps, -1)
def rowB (a b : AutoT) (p : Int × Int) : Nat → Nat → PairsT → List Int → PairsT × List Int
  | 0, _, ps, row => (ps, row)
  | n + 1, j, ps, row => rowB a b p n (j + 1) (cellB a b p j ps).1 (row ++ [(cellB a b p j ps).2])
def bothB (a b : AutoT) : Nat → Nat → PairsT → List Bool → List (List Int) → PairsT × List Bool × List (List Int)
  | 0, _, ps, es, gs => (ps, es, gs)
  | n + 1, i, ps, es, gs => if i < ps.length then bothB a b n (i + 1) (rowB a b (ps.getD i (0, 0)) 4 0 ps []).1 (es ++ [endR a (ps.getD i (0, 0)).1 && endR b (ps.getD i (0, 0)).2]) (gs ++ [(rowB a b (ps.getD i (0, 0)) 4 0 ps []).2]) else (ps, es, gs)
def wrapB (o : AutoT) : AutoT × Bool := if autoOk o then (o, true) else ((0, [], []), false)
def both (a b : AutoT) : AutoT × Bool := if autoOk a && autoOk b then wrapB (0, (bothB a b 37 0 [(a.1, b.1)] [] []).2) else ((0, [], []), false)
/-- Pairs of places, each once. -/
def PsOk (a b : AutoT) (ps : PairsT) : Prop := ps.Nodup ∧ ∀ p ∈ ps, 0 ≤ p.1 ∧ p.1 < a.2.1.length ∧ 0 ≤ p.2 ∧ p.2 < b.2.1.length
structure OkA (a : AutoT) : Prop where
  n : a.2.1.length ≤ 6
  l : a.2.2.length = a.2.1.length
  b0 : 0 ≤ a.1
  b1 : a.1 < a.2.1.length
  r4 : ∀ r ∈ a.2.2, r.length = 4
  rg : ∀ r ∈ a.2.2, ∀ x ∈ r, -1 ≤ x ∧ x < a.2.1.length
theorem okA {a : AutoT} (h : autoOk a = true) : OkA a := by
  simp only [autoOk, Bool.and_eq_true, decide_eq_true_eq, List.all_eq_true] at h
  obtain ⟨⟨⟨⟨⟨h1, h2⟩, h3⟩, h4⟩, h5⟩, h6⟩ := h
  refine ⟨h2, h3, h4, h5, fun r hr => ?_, fun r hr x hx => ?_⟩
  · have := h6 r hr; simp only [rowOk, Bool.and_eq_true, decide_eq_true_eq] at this; exact this.1
  · have := h6 r hr
    simp only [rowOk, Bool.and_eq_true, decide_eq_true_eq, List.all_eq_true] at this
    have := this.2 x hx
    simp only [goalB, Bool.and_eq_true, decide_eq_true_eq] at this
    exact this
theorem OkA.mid {a : AutoT} (h : OkA a) : Mid a := ⟨by have := h.n; omega, by have := h.n; have := h.l; omega, fun r hr => by rw [h.r4 r hr]; omega⟩
theorem OkA.go {a : AutoT} (h : OkA a) {p : Int} (h0 : 0 ≤ p) (h1 : p < a.2.1.length) {k : Nat} (hk : k < 4) : -1 ≤ goR a p k ∧ goR a p k < a.2.1.length ∧ (a.2.2.getD p.toNat []).length = 4 := by
  have hm : a.2.2.getD p.toNat [] ∈ a.2.2 := getD_mem _ _ _ (by have := h.l; omega)
  have h4 := h.r4 _ hm
  have := h.rg _ hm _ (getD_mem _ k 0 (by omega))
  exact ⟨this.1, this.2, h4⟩
theorem nodup_lt : ∀ (n : Nat) (l : List Nat), l.Nodup → (∀ x ∈ l, x < n) → l.length ≤ n
  | 0, l, _, h => by
    cases l with
    | nil => simp
    | cons x l => exact absurd (h x (by simp)) (Nat.not_lt_zero _)
  | n + 1, l, hn, h => by
    by_cases hm : n ∈ l
    · have h1 := nodup_lt n (l.erase n) (hn.erase n) (fun x hx => by
        have := (hn.mem_erase_iff.1 hx)
        have := h x this.2
        omega)
      rw [List.length_erase_of_mem hm] at h1
      omega
    · have := nodup_lt n l hn (fun x hx => by
        have h2 := h x hx
        have : x ≠ n := fun e => hm (e ▸ hx)
        omega)
      omega
theorem PsOk.len {a b : AutoT} (ha : OkA a) (hb : OkA b) {ps : PairsT} (h : PsOk a b ps) : ps.length ≤ 36 := by
  have hn := ha.n
  have hm := hb.n
  have h1 : (ps.map fun p => p.1.toNat * 6 + p.2.toNat).Nodup := by
    refine List.pairwise_map.2 (h.1.imp_of_mem fun {p q} hp hq hne e => hne ?_)
    have h1 := h.2 p hp
    have h2 := h.2 q hq
    exact Prod.ext (by omega) (by omega)
  have := nodup_lt 36 _ h1 (fun x hx => by
    obtain ⟨p, hp, rfl⟩ := List.mem_map.1 hx
    have h1 := h.2 p hp
    omega)
  simpa using this
theorem cell_ok {a b : AutoT} (ha : OkA a) (hb : OkA b) {ps : PairsT} (h : PsOk a b ps) {p : Int × Int} (hp : 0 ≤ p.1 ∧ p.1 < a.2.1.length ∧ 0 ≤ p.2 ∧ p.2 < b.2.1.length) {k : Nat} (hk : k < 4) :
    PsOk a b (cellB a b p k ps).1 := by
  unfold cellB
  split
  · rename_i h0
    split
    · rename_i hf
      have hnm : (goR a p.1 k, goR b p.2 k) ∉ ps := by
        rcases fi_range (goR a p.1 k, goR b p.2 k) ps with ⟨_, h2⟩ | ⟨h1, _⟩
        · exact h2
        · omega
      have g1 := ha.go hp.1 hp.2.1 hk
      have g2 := hb.go hp.2.2.1 hp.2.2.2 hk
      refine ⟨?_, fun q hq => ?_⟩
      · exact List.nodup_append.2 ⟨h.1, by simp, fun x hx y hy => by rw [List.mem_singleton.1 hy]; exact fun e => hnm (e ▸ hx)⟩
      · rcases List.mem_append.1 hq with hq | hq
        · exact h.2 q hq
        · rw [List.mem_singleton.1 hq]; exact ⟨h0.1, g1.2.1, h0.2, g2.2.1⟩
    · exact h
  · exact h
theorem row_ok {a b : AutoT} (ha : OkA a) (hb : OkA b) {p : Int × Int} (hp : 0 ≤ p.1 ∧ p.1 < a.2.1.length ∧ 0 ≤ p.2 ∧ p.2 < b.2.1.length) : ∀ (n j : Nat) {ps : PairsT} {row : List Int}, j + n ≤ 4 → PsOk a b ps → PsOk a b (rowB a b p n j ps row).1
  | 0, j, ps, row, _, h => h
  | n + 1, j, ps, row, hj, h => row_ok ha hb hp n (j + 1) (by omega) (cell_ok ha hb h hp (by omega))
theorem start_ok {a b : AutoT} (ha : OkA a) (hb : OkA b) : PsOk a b [(a.1, b.1)] :=
  ⟨by simp, fun p hp => by rw [List.mem_singleton.1 hp]; exact ⟨ha.b0, ha.b1, hb.b0, hb.b1⟩⟩
theorem cell_pre (a b : AutoT) (p : Int × Int) (k : Nat) (ps : PairsT) : ∃ t, (cellB a b p k ps).1 = ps ++ t := by
  unfold cellB
  split
  · split
    · exact ⟨_, rfl⟩
    · exact ⟨[], by simp⟩
  · exact ⟨[], by simp⟩
theorem row_pre (a b : AutoT) (p : Int × Int) : ∀ (n j : Nat) (ps : PairsT) (row : List Int), ∃ t, (rowB a b p n j ps row).1 = ps ++ t
  | 0, j, ps, row => ⟨[], by simp [rowB]⟩
  | n + 1, j, ps, row => by
    obtain ⟨t, ht⟩ := cell_pre a b p j ps
    obtain ⟨t', ht'⟩ := row_pre a b p n (j + 1) (cellB a b p j ps).1 (row ++ [(cellB a b p j ps).2])
    exact ⟨t ++ t', by rw [rowB, ht', ht, List.append_assoc]⟩
theorem row_len (a b : AutoT) (p : Int × Int) : ∀ (n j : Nat) (ps : PairsT) (row : List Int), (rowB a b p n j ps row).2.length = row.length + n
  | 0, j, ps, row => rfl
  | n + 1, j, ps, row => by rw [rowB, row_len]; simp; omega
theorem getD_pre {α : Type} (l t : List α) (i : Nat) (d : α) (h : i < l.length) : (l ++ t).getD i d = l.getD i d := by
  rw [List.getD_eq_getElem?_getD, List.getElem?_append_left h, ← List.getD_eq_getElem?_getD]
/-! what a product takes in -/
def walkA (a : AutoT) : Int → List UInt8 → Bool
  | p, [] => endR a p
  | p, c :: s => if goR a p (c.toNat - 97) < 0 then false else walkA a (goR a p (c.toNat - 97)) s
def isA (a : AutoT) (s : List UInt8) : Bool := autoOk a && (textOk s && walkA a a.1 s)
/-- A row that tells where two go. -/
def RowG (a b : AutoT) (ps : PairsT) (p : Int × Int) (row : List Int) (n : Nat) : Prop :=
  ∀ k, k < n → if 0 ≤ goR a p.1 k ∧ 0 ≤ goR b p.2 k then (∃ j : Nat, j < ps.length ∧ row.getD k 0 = j ∧ ps.getD j (0, 0) = (goR a p.1 k, goR b p.2 k)) else row.getD k 0 = -1
theorem RowG.more {a b : AutoT} {ps : PairsT} {p : Int × Int} {row : List Int} {n : Nat} (h : RowG a b ps p row n) (t : PairsT) : RowG a b (ps ++ t) p row n := fun k hk => by
  have := h k hk
  split
  · rename_i hc
    rw [if_pos hc] at this
    obtain ⟨j, h1, h2, h3⟩ := this
    exact ⟨j, by simp; omega, h2, by rw [getD_pre _ _ _ _ h1]; exact h3⟩
  · rename_i hc
    rw [if_neg hc] at this; exact this
theorem rowB_ok (a b : AutoT) (p : Int × Int) : ∀ (n j : Nat) {ps : PairsT} {row : List Int}, row.length = j → RowG a b ps p row j → RowG a b (rowB a b p n j ps row).1 p (rowB a b p n j ps row).2 (j + n)
  | 0, j, ps, row, hr, h => h
  | n + 1, j, ps, row, hr, h => by
    rw [rowB]
    obtain ⟨t, ht⟩ := cell_pre a b p j ps
    have e : j + (n + 1) = j + 1 + n := by omega
    rw [e]
    refine rowB_ok a b p n (j + 1) (by simp [hr]) (fun k hk => ?_)
    by_cases hkj : k < j
    · have := (h.more t) k hkj
      rw [ht, getD_pre _ _ _ _ (by omega)]
      exact this
    · obtain rfl : k = j := by omega
      have e2 : (row ++ [(cellB a b p k ps).2]).getD k 0 = (cellB a b p k ps).2 := by
        rw [List.getD_eq_getElem?_getD, List.getElem?_append_right (by omega)]; simp [hr]
      rw [e2]
      by_cases hc : 0 ≤ goR a p.1 k ∧ 0 ≤ goR b p.2 k
      · rw [if_pos hc]
        by_cases hf : fi ps (goR a p.1 k, goR b p.2 k) < 0
        · have e3 : cellB a b p k ps = (ps ++ [(goR a p.1 k, goR b p.2 k)], (ps.length : Int)) := by unfold cellB; rw [if_pos hc, if_pos hf]
          rw [e3]
          exact ⟨ps.length, by simp, rfl, by rw [List.getD_eq_getElem?_getD, List.getElem?_append_right (Nat.le_refl _)]; simp⟩
        · have e3 : cellB a b p k ps = (ps, fi ps (goR a p.1 k, goR b p.2 k)) := by unfold cellB; rw [if_pos hc, if_neg hf]
          rw [e3]
          rcases fi_range (goR a p.1 k, goR b p.2 k) ps with ⟨h3, _⟩ | ⟨h3, h4, h5⟩
          · omega
          · exact ⟨(fi ps (goR a p.1 k, goR b p.2 k)).toNat, by show _ < ps.length; omega, by show fi ps _ = _; omega, h5⟩
      · rw [if_neg hc]
        have e3 : cellB a b p k ps = (ps, -1) := by unfold cellB; rw [if_neg hc]
        rw [e3]
structure GoodB (a b : AutoT) (ps : PairsT) (es : List Bool) (gs : List (List Int)) (i : Nat) : Prop where
  e : es.length = i
  g : gs.length = i
  ends : ∀ t, t < i → es.getD t false = (endR a (ps.getD t (0, 0)).1 && endR b (ps.getD t (0, 0)).2)
  rows : ∀ t, t < i → RowG a b ps (ps.getD t (0, 0)) (gs.getD t []) 4
theorem bothB_ok (a b : AutoT) : ∀ (n i : Nat) {ps : PairsT} {es : List Bool} {gs : List (List Int)}, i ≤ ps.length → GoodB a b ps es gs i →
    ∃ i', i' ≤ (bothB a b n i ps es gs).1.length ∧ GoodB a b (bothB a b n i ps es gs).1 (bothB a b n i ps es gs).2.1 (bothB a b n i ps es gs).2.2 i' ∧ (37 ≤ n + i → (bothB a b n i ps es gs).1.length ≤ 36 → i' = (bothB a b n i ps es gs).1.length) ∧ ∃ t, (bothB a b n i ps es gs).1 = ps ++ t
  | 0, i, ps, es, gs, hi, h => ⟨i, hi, h, fun h1 h2 => by have : ps.length ≤ 36 := h2; omega, [], by simp [bothB]⟩
  | n + 1, i, ps, es, gs, hi, h => by
    unfold bothB
    split
    · rename_i hlt
      obtain ⟨t, ht⟩ := row_pre a b (ps.getD i (0, 0)) 4 0 ps []
      have hrow := rowB_ok a b (ps.getD i (0, 0)) 4 0 (ps := ps) (row := []) rfl (fun k hk => absurd hk (Nat.not_lt_zero _))
      have hG : GoodB a b (rowB a b (ps.getD i (0, 0)) 4 0 ps []).1 (es ++ [endR a (ps.getD i (0, 0)).1 && endR b (ps.getD i (0, 0)).2]) (gs ++ [(rowB a b (ps.getD i (0, 0)) 4 0 ps []).2]) (i + 1) := by
        have he := h.e
        have hg := h.g
        refine ⟨by simp [he], by simp [hg], fun u hu => ?_, fun u hu => ?_⟩
        · rw [ht]
          by_cases hui : u < i
          · rw [getD_pre _ _ _ _ (by omega), getD_pre _ _ _ _ (by omega)]; exact h.ends u hui
          · obtain rfl : u = i := by omega
            rw [getD_pre ps t u _ hlt]
            rw [List.getD_eq_getElem?_getD, List.getElem?_append_right (by omega)]; simp [he]
        · by_cases hui : u < i
          · rw [ht, getD_pre _ _ _ _ (by omega), getD_pre _ _ _ _ (by omega)]; exact (h.rows u hui).more t
          · obtain rfl : u = i := by omega
            have e1 : (rowB a b (ps.getD u (0, 0)) 4 0 ps []).1.getD u (0, 0) = ps.getD u (0, 0) := by rw [ht]; exact getD_pre _ _ _ _ hlt
            have e2 : (gs ++ [(rowB a b (ps.getD u (0, 0)) 4 0 ps []).2]).getD u [] = (rowB a b (ps.getD u (0, 0)) 4 0 ps []).2 := by
              rw [List.getD_eq_getElem?_getD, List.getElem?_append_right (by omega)]; simp [hg]
            rw [e1, e2]; exact hrow
      obtain ⟨i', g1, g2, g3, t', g4⟩ := bothB_ok a b n (i + 1) (by rw [ht]; simp; omega) hG
      exact ⟨i', g1, g2, fun h1 h2 => g3 (by omega) h2, t ++ t', by rw [g4, ht, List.append_assoc]⟩
    · rename_i hge
      exact ⟨i, hi, h, fun _ _ => by show i = ps.length; omega, [], by simp⟩
theorem psok_bothB {a b : AutoT} (ha : OkA a) (hb : OkA b) : ∀ (n i : Nat) {ps : PairsT} {es : List Bool} {gs : List (List Int)}, PsOk a b ps → PsOk a b (bothB a b n i ps es gs).1
  | 0, i, ps, es, gs, h => h
  | n + 1, i, ps, es, gs, h => by
    unfold bothB
    split
    · rename_i hlt
      exact psok_bothB ha hb n (i + 1) (row_ok ha hb (h.2 _ (getD_mem ps i (0, 0) hlt)) 4 0 (by omega) h)
    · exact h
theorem both_walk {a b : AutoT} {ps : PairsT} {es : List Bool} {gs : List (List Int)} (H : GoodB a b ps es gs ps.length) (x : Int) : ∀ (s : List UInt8) (i : Nat), s.all small = true → i < ps.length →
    walkA (x, es, gs) (i : Int) s = (walkA a (ps.getD i (0, 0)).1 s && walkA b (ps.getD i (0, 0)).2 s)
  | [], i, _, hi => by
    have := H.ends i hi
    simp only [walkA]
    rw [← this]; simp [endR]
  | c :: s, i, hs, hi => by
    simp only [List.all_cons, Bool.and_eq_true] at hs
    have hk : c.toNat - 97 < 4 := by
      have := hs.1
      simp only [small, Bool.and_eq_true, decide_eq_true_eq] at this
      omega
    have hrow := H.rows i hi (c.toNat - 97) hk
    simp only [walkA]
    have e : goR (x, es, gs) (i : Int) (c.toNat - 97) = (gs.getD i []).getD (c.toNat - 97) 0 := by simp [goR]
    rw [e]
    by_cases hc : 0 ≤ goR a (ps.getD i (0, 0)).1 (c.toNat - 97) ∧ 0 ≤ goR b (ps.getD i (0, 0)).2 (c.toNat - 97)
    · rw [if_pos hc] at hrow
      obtain ⟨j, h1, h2, h3⟩ := hrow
      rw [h2, if_neg (by omega), if_neg (by omega), if_neg (by omega), both_walk H x s j hs.2 h1, h3]
    · rw [if_neg hc] at hrow
      rw [hrow, if_pos (by omega)]
      by_cases h0 : goR a (ps.getD i (0, 0)).1 (c.toNat - 97) < 0
      · rw [if_pos h0]; rfl
      · rw [if_neg h0, if_pos (by omega)]; simp
theorem both_is {a b : AutoT} (h : (both a b).2 = true) (s : List UInt8) : autoOk a = true ∧ autoOk b = true ∧ autoOk (both a b).1 = true ∧ isA (both a b).1 s = (isA a s && isA b s) := by
  unfold both at h ⊢
  split at h
  case isFalse => cases h
  rename_i hab
  simp only [Bool.and_eq_true] at hab
  unfold wrapB at h
  split at h
  case isFalse => cases h
  rename_i hok
  rw [if_pos (by simp [hab])]
  unfold wrapB
  rw [if_pos hok]
  refine ⟨hab.1, hab.2, hok, ?_⟩
  have ha := okA hab.1
  have hb := okA hab.2
  obtain ⟨i', g1, g2, g3, t, g4⟩ := bothB_ok a b 37 0 (ps := [(a.1, b.1)]) (es := []) (gs := []) (by simp) ⟨rfl, rfl, fun t ht => absurd ht (Nat.not_lt_zero _), fun t ht => absurd ht (Nat.not_lt_zero _)⟩
  have hlen := (psok_bothB ha hb 37 0 (es := []) (gs := []) (start_ok ha hb)).len ha hb
  have e := g3 (by omega) hlen
  rw [e] at g2
  have hpos : 0 < (bothB a b 37 0 [(a.1, b.1)] [] []).1.length := by rw [g4]; simp
  have h0 : (bothB a b 37 0 [(a.1, b.1)] [] []).1.getD 0 (0, 0) = (a.1, b.1) := by rw [g4]; rfl
  unfold isA
  rw [hab.1, hab.2, hok]
  cases ht : textOk s with
  | false => simp
  | true =>
    simp only [textOk, Bool.and_eq_true] at ht
    have := both_walk g2 0 s 0 ht.1 hpos
    rw [h0] at this
    simp only [Bool.true_and]
    exact this
/-- The other way round. -/
def swP (p : Int × Int) : Int × Int := (p.2, p.1)
theorem fi_swap (y : Int × Int) : ∀ l : PairsT, fi (l.map swP) (swP y) = fi l y
  | [] => rfl
  | x :: l => by
    have e : (swP x = swP y) ↔ x = y := ⟨fun h => by simp only [swP, Prod.mk.injEq] at h; exact Prod.ext h.2 h.1, fun h => by rw [h]⟩
    simp only [List.map_cons, fi, e, fi_swap y l]
theorem cell_swap (a b : AutoT) (p : Int × Int) (k : Nat) (ps : PairsT) : cellB b a (swP p) k (ps.map swP) = ((cellB a b p k ps).1.map swP, (cellB a b p k ps).2) := by
  have e : fi (ps.map swP) (goR b p.2 k, goR a p.1 k) = fi ps (goR a p.1 k, goR b p.2 k) := fi_swap (goR a p.1 k, goR b p.2 k) ps
  have l : cellB b a (swP p) k (ps.map swP) = (if 0 ≤ goR b p.2 k ∧ 0 ≤ goR a p.1 k then (if fi (ps.map swP) (goR b p.2 k, goR a p.1 k) < 0 then (ps.map swP ++ [(goR b p.2 k, goR a p.1 k)], ((ps.map swP).length : Int)) else (ps.map swP, fi (ps.map swP) (goR b p.2 k, goR a p.1 k))) else (ps.map swP, -1)) := rfl
  rw [l]
  by_cases h : 0 ≤ goR a p.1 k ∧ 0 ≤ goR b p.2 k
  · rw [if_pos ⟨h.2, h.1⟩]
    by_cases h2 : fi ps (goR a p.1 k, goR b p.2 k) < 0
    · have r : cellB a b p k ps = (ps ++ [(goR a p.1 k, goR b p.2 k)], (ps.length : Int)) := by unfold cellB; rw [if_pos h, if_pos h2]
      rw [if_pos (by rw [e]; exact h2), r]; simp [swP]
    · have r : cellB a b p k ps = (ps, fi ps (goR a p.1 k, goR b p.2 k)) := by unfold cellB; rw [if_pos h, if_neg h2]
      rw [if_neg (by rw [e]; exact h2), r, e]
  · have r : cellB a b p k ps = (ps, -1) := by unfold cellB; rw [if_neg h]
    rw [if_neg (fun h' => h ⟨h'.2, h'.1⟩), r]
theorem row_swap (a b : AutoT) (p : Int × Int) : ∀ (n j : Nat) (ps : PairsT) (row : List Int), rowB b a (swP p) n j (ps.map swP) row = ((rowB a b p n j ps row).1.map swP, (rowB a b p n j ps row).2)
  | 0, j, ps, row => rfl
  | n + 1, j, ps, row => by rw [rowB, rowB, cell_swap]; exact row_swap a b p n (j + 1) _ _
theorem bothB_swap (a b : AutoT) : ∀ (n i : Nat) (ps : PairsT) (es : List Bool) (gs : List (List Int)), (bothB b a n i (ps.map swP) es gs).2 = (bothB a b n i ps es gs).2
  | 0, i, ps, es, gs => rfl
  | n + 1, i, ps, es, gs => by
    unfold bothB
    simp only [List.length_map]
    split
    · rename_i h
      have e : (ps.map swP).getD i (0, 0) = swP (ps.getD i (0, 0)) := by
        rw [List.getD_eq_getElem?_getD, List.getD_eq_getElem?_getD, List.getElem?_map, List.getElem?_eq_getElem h]; rfl
      rw [e, row_swap]
      have e2 : (endR b (swP (ps.getD i (0, 0))).1 && endR a (swP (ps.getD i (0, 0))).2) = (endR a (ps.getD i (0, 0)).1 && endR b (ps.getD i (0, 0)).2) := Bool.and_comm _ _
      rw [e2]
      exact bothB_swap a b n (i + 1) _ _ _
    · rfl
theorem both_swap (a b : AutoT) : both b a = both a b := by
  unfold both
  have e := bothB_swap a b 37 0 [(a.1, b.1)] [] []
  have e2 : [(a.1, b.1)].map swP = [(b.1, a.1)] := rfl
  rw [e2] at e
  rw [e, Bool.and_comm]
/-! a walk by a text -/
def abcd : List UInt8 := [97, 98, 99, 100]
theorem small_abcd (c : UInt8) : small c = abcd.contains c := by
  by_cases h1 : c = 97
  · subst h1; rfl
  by_cases h2 : c = 98
  · subst h2; rfl
  by_cases h3 : c = 99
  · subst h3; rfl
  by_cases h4 : c = 100
  · subst h4; rfl
  have e : abcd.contains c = false := by
    simp [abcd, h1, h2, h3, h4]
  rw [e]
  have k : ∀ n : UInt8, c ≠ n → c.toNat ≠ n.toNat := fun n h e => h (UInt8.toNat_inj.1 e)
  have a1 := k 97 h1
  have a2 := k 98 h2
  have a3 := k 99 h3
  have a4 := k 100 h4
  simp only [show (97 : UInt8).toNat = 97 from rfl, show (98 : UInt8).toNat = 98 from rfl, show (99 : UInt8).toNat = 99 from rfl, show (100 : UInt8).toNat = 100 from rfl] at a1 a2 a3 a4
  by_cases h5 : 97 ≤ c.toNat
  · have : ¬ c.toNat ≤ 100 := by omega
    simp [small, this]
  · simp [small, h5]
theorem trim_abcd (s : List UInt8) : (trimE s abcd = []) ↔ s.all small = true := by
  have e : (small : UInt8 → Bool) = abcd.contains := funext small_abcd
  rw [e]
  exact trim_nil s abcd
theorem implTextOk_ev (s : List UInt8) : EvP (fun k => impl_TextOk k s) (fun r => r = textOk s) := by
  refine EvP.fn (fun k => impl_TextOk_eq k s) (EvP.bind (P := fun r => r = textOk s) ?_ fun r hr => EvP.now hr)
  refine EvP.fn (fun k => impl_areSmalls_eq k _ _) (EvP.dec (fun h => ?_) (fun h => EvP.now ?_))
  · refine EvP.bind (P := fun r => r = trimE s abcd) (EvP.fn (fun k => strings_Trim_eq k _ _) (EvP.yes ⟨by omega, by decide, by decide⟩ (EvP.now rfl))) fun r hr => EvP.now ?_
    rw [hr]
    have h8 : s.length ≤ 8 := by omega
    show decide (trimE s abcd = []) = textOk s
    simp only [textOk, h8, decide_true, Bool.and_true]
    have := trim_abcd s
    cases hc : s.all small with
    | true => exact decide_eq_true (this.2 hc)
    | false => exact decide_eq_false (fun h => by rw [this.1 h] at hc; cases hc)
  · have h8 : ¬ s.length ≤ 8 := by omega
    simp [textOk, h8]
theorem goes_ev {a : AutoT} (ha : OkA a) {p : Int} (h0 : 0 ≤ p) (h1 : p < a.2.1.length) {c : UInt8} (hc : small c = true) : EvP (fun k => impl_Auto_goes k a.1 a.2.1 a.2.2 p (c.toNat : Int)) (fun r => r = goR a p (c.toNat - 97)) := by
  simp only [small, Bool.and_eq_true, decide_eq_true_eq] at hc
  have hg := ha.go h0 h1 (k := c.toNat - 97) (by omega)
  have l1 := ha.l
  have e : IntKind.u8.wrap ((c.toNat : Int) - 97) = ((c.toNat - 97 : Nat) : Int) := by rw [w8 (by omega) (by omega)]; omega
  refine EvP.fn (fun k => impl_Auto_goes_eq k _ _ _ _ _) ?_
  rw [e]
  refine EvP.yes h0 (EvP.yes (by omega) (EvP.yes (by omega) (EvP.yes (by rw [hg.2.2]; omega) (EvP.now rfl))))
/-! what comes of signs -/
abbrev Rl := List UInt8 × List UInt8
/-- Signs come to what stands between two places of a text. -/
inductive Ders (R : List Rl) (s : List UInt8) : List UInt8 → Nat → Nat → Prop
  | nil (i : Nat) (hi : i ≤ s.length) : Ders R s [] i i
  | small (c : UInt8) (r : List UInt8) (i j : Nat) (hc : small c = true) (h : s[i]? = some c) (hr : Ders R s r (i + 1) j) : Ders R s (c :: r) i j
  | big (c : UInt8) (q r : List UInt8) (i m j : Nat) (hc : small c = false) (h : ([c], q) ∈ R) (hq : Ders R s q i m) (hr : Ders R s r m j) : Ders R s (c :: r) i j
theorem Ders.le {R : List Rl} {s l : List UInt8} {i j : Nat} (h : Ders R s l i j) : i ≤ j ∧ j ≤ s.length := by
  induction h with
  | nil i hi => exact ⟨Nat.le_refl _, hi⟩
  | small c r i j hc h hr ih => omega
  | big c q r i m j hc h hq hr ih1 ih2 => omega
theorem Ders.append {R : List Rl} {s a b : List UInt8} {i m j : Nat} (h : Ders R s a i m) (h' : Ders R s b m j) : Ders R s (a ++ b) i j := by
  induction h with
  | nil i hi => exact h'
  | small c r i j hc h hr ih => exact .small c _ i _ hc h (ih h')
  | big c q r i m j hc h hq hr ih1 ih2 => exact .big c q _ i m _ hc h hq (ih2 h')
theorem Ders.more {R R' : List Rl} (hR : ∀ x ∈ R, x ∈ R') {s l : List UInt8} {i j : Nat} (h : Ders R s l i j) : Ders R' s l i j := by
  induction h with
  | nil i hi => exact .nil i hi
  | small c r i j hc h hr ih => exact .small c _ i _ hc h ih
  | big c q r i m j hc h hq hr ih1 ih2 => exact .big c q _ i m _ hc (hR _ h) ih1 ih2
theorem Ders.put {R : List Rl} {s l : List UInt8} {i j : Nat} (h : Ders R s l i j) (a b : List UInt8) : Ders R (a ++ s ++ b) l (a.length + i) (a.length + j) := by
  induction h with
  | nil i hi => exact .nil _ (by simp; omega)
  | small c r i j hc h hr ih =>
    have hl := (List.getElem?_eq_some_iff.1 h).1
    refine .small c _ _ _ hc ?_ (by rw [Nat.add_assoc]; exact ih)
    rw [List.append_assoc, List.getElem?_append_right (by omega), List.getElem?_append_left (by omega), Nat.add_sub_cancel_left]
    exact h
  | big c q r i m j hc h hq hr ih1 ih2 => exact .big c q _ _ _ _ hc h ih1 ih2
/-- Told backward. -/
theorem Ders.turn {R R' : List Rl} (hR : ∀ x ∈ R, (x.1, x.2.reverse) ∈ R') {s l : List UInt8} {i j : Nat} (h : Ders R s l i j) : Ders R' s.reverse l.reverse (s.length - j) (s.length - i) := by
  induction h with
  | nil i hi => exact .nil _ (by simp)
  | small c r i j hc h hr ih =>
    have hl := (List.getElem?_eq_some_iff.1 h).1
    have hle := hr.le
    rw [List.reverse_cons]
    refine ih.append (.small c [] _ _ hc ?_ ?_)
    · rw [List.getElem?_reverse (by omega)]
      have : s.length - 1 - (s.length - (i + 1)) = i := by omega
      rw [this]; exact h
    · have : s.length - (i + 1) + 1 = s.length - i := by omega
      rw [this]; exact .nil _ (by simp)
  | big c q r i m j hc h hq hr ih1 ih2 =>
    rw [List.reverse_cons]
    exact ih2.append (.big c _ [] _ _ _ hc (hR _ h) ih1 (.nil _ (by simp)))
/-! charts -/
/-- A sign comes to a part, as a chart tells. -/
def step (C : UInt8 → Nat → Nat → Prop) (s : List UInt8) (c : UInt8) (i j : Nat) : Prop := (small c = true ∧ j = i + 1 ∧ s[i]? = some c) ∨ (small c = false ∧ C c i j)
def split (C : UInt8 → Nat → Nat → Prop) (s : List UInt8) : List UInt8 → Nat → Nat → Prop
  | [], i, j => i = j
  | c :: r, i, j => ∃ m, i ≤ m ∧ m ≤ j ∧ step C s c i m ∧ split C s r m j
theorem split_le {C : UInt8 → Nat → Nat → Prop} {s : List UInt8} : ∀ {l : List UInt8} {i j : Nat}, split C s l i j → i ≤ j
  | [], i, j, h => Nat.le_of_eq h
  | _ :: _, i, j, ⟨m, h1, h2, _, _⟩ => Nat.le_trans h1 h2
/-- What a chart tells is so. -/
theorem split_sound {R : List Rl} {C : UInt8 → Nat → Nat → Prop} {s : List UInt8} (hC : ∀ c i j, small c = false → C c i j → Ders R s [c] i j) : ∀ {l : List UInt8} {i j : Nat}, j ≤ s.length → split C s l i j → Ders R s l i j
  | [], i, j, hj, h => by
    have h : i = j := h
    subst h; exact .nil _ hj
  | c :: r, i, j, hj, ⟨m, h1, h2, h3, h4⟩ => by
    have hr := split_sound hC hj h4
    rcases h3 with ⟨a1, rfl, a3⟩ | ⟨a1, a2⟩
    · exact .small c r i j a1 a3 hr
    · exact (hC c i m a1 a2).append hr
/-- A chart that is closed tells all. -/
theorem split_all {R : List Rl} {C : UInt8 → Nat → Nat → Prop} {s : List UInt8} (hC : ∀ c q i j, small c = false → ([c], q) ∈ R → i ≤ j → j ≤ s.length → split C s q i j → C c i j) {l : List UInt8} {i j : Nat} (h : Ders R s l i j) : split C s l i j := by
  induction h with
  | nil i hi => rfl
  | small c r i j hc h hr ih => exact ⟨i + 1, by omega, split_le ih, .inl ⟨hc, rfl, h⟩, ih⟩
  | big c q r i m j hc h hq hr ih1 ih2 => exact ⟨m, split_le ih1, split_le ih2, .inr ⟨hc, hC c q i m hc h hq.le.1 hq.le.2 ih1⟩, ih2⟩
theorem split_mono {C C' : UInt8 → Nat → Nat → Prop} (h : ∀ c i j, C c i j → C' c i j) {s : List UInt8} : ∀ {l : List UInt8} {i j : Nat}, split C s l i j → split C' s l i j
  | [], i, j, hh => hh
  | c :: r, i, j, ⟨m, h1, h2, h3, h4⟩ => ⟨m, h1, h2, h3.imp id (fun ⟨a, b⟩ => ⟨a, h _ _ _ b⟩), split_mono h h4⟩
theorem ders_one {C : UInt8 → Nat → Nat → Prop} {s : List UInt8} {c : UInt8} {i j : Nat} (hc : small c = false) (h : split C s [c] i j) : C c i j := by
  obtain ⟨m, h1, h2, h3, h4⟩ := h
  have h4 : m = j := h4
  subst h4
  rcases h3 with ⟨a, _⟩ | ⟨_, a⟩
  · rw [hc] at a; cases a
  · exact a
/-! charts kept in a map -/
abbrev PT : Ty := .pair .str (.pair (.int .i64) (.int .i64))
abbrev Key := List UInt8 × Int × Int
abbrev Mp := List (Key × Bool)
theorem eqD_key (x y : Key) : eqD PT x y = decide (x = y) := by
  obtain ⟨a, b, c⟩ := x
  obtain ⟨d, e, f⟩ := y
  show (decide (a = d) && (decide (b = e) && decide (c = f))) = _
  rw [Bool.eq_iff_iff]
  simp only [Bool.and_eq_true, decide_eq_true_eq, Prod.mk.injEq]
def mv (xs : Mp) (x : Key) : Bool := mval PT .bool xs x
theorem mv_nil (x : Key) : mv [] x = false := rfl
theorem mv_put : ∀ (xs : Mp) (x : Key) (z : Key), mv (mput PT .bool xs x true) z = if z = x then true else mv xs z
  | [], x, z => by
    show (match eqD PT z x with | true => true | false => false) = _
    rw [eqD_key]
    by_cases h : z = x <;> simp [h, mv, mval, Ty.dflt]
  | p :: r, x, z => by
    have ih := mv_put r x z
    unfold mv at ih ⊢
    unfold mput
    rw [eqD_key]
    by_cases h : x = p.1
    · rw [decide_eq_true h]
      show mval PT .bool ((p.1, true) :: r) z = _
      unfold mval
      rw [eqD_key, ← h]
      by_cases h2 : z = x
      · simp [h2]
      · simp [h2]
    · rw [decide_eq_false h]
      show mval PT .bool (p :: mput PT .bool r x true) z = _
      unfold mval
      rw [eqD_key]
      by_cases h2 : z = p.1
      · have h3 : ¬ z = x := fun e => h (e ▸ h2)
        rw [decide_eq_true h2, if_neg h3]
      · rw [decide_eq_false h2]; exact ih
def has (xs : Mp) (c : UInt8) (i j : Nat) : Prop := mv xs ([c], (i : Int), (j : Int)) = true
def below (xs xs' : Mp) : Prop := ∀ z, mv xs z = true → mv xs' z = true
theorem below_has {xs xs' : Mp} (h : below xs xs') : ∀ c i j, has xs c i j → has xs' c i j := fun c i j => h _
theorem below_put (xs : Mp) (x : Key) : below xs (mput PT .bool xs x true) := fun z h => by
  rw [mv_put]; split
  · rfl
  · exact h
/-- What is still to be found. -/
def keys (R : List Rl) (n : Nat) : List Key := R.flatMap fun r => (List.range (n + 1)).flatMap fun (i : Nat) => (List.range (n + 1)).map fun (j : Nat) => ((r.1, (i : Int), (j : Int)) : Key)
def todo (R : List Rl) (n : Nat) (xs : Mp) : Nat := (keys R n).countP fun x => !mv xs x
theorem todo_le (R : List Rl) (n : Nat) {xs xs' : Mp} (h : below xs xs') : todo R n xs' ≤ todo R n xs := by
  refine List.countP_mono_left fun x _ hx => ?_
  cases hv : mv xs x with
  | false => rfl
  | true => rw [h x hv] at hx; cases hx
theorem countP_lt {α : Type} (p q : α → Bool) (h : ∀ x, p x = true → q x = true) : ∀ (l : List α) (a : α), a ∈ l → p a = false → q a = true → l.countP p < l.countP q
  | b :: l, a, ha, hp, hq => by
    have hle : l.countP p ≤ l.countP q := List.countP_mono_left fun x _ hx => h x hx
    rw [List.countP_cons, List.countP_cons]
    rcases List.mem_cons.1 ha with rfl | ha
    · simp only [hp, hq, if_true]; simp; omega
    · have := countP_lt p q h l a ha hp hq
      have : (if p b = true then 1 else 0) ≤ (if q b = true then 1 else 0) := by
        by_cases hb : p b = true
        · simp [hb, h b hb]
        · simp [hb]
      omega
theorem todo_lt (R : List Rl) (n : Nat) {xs : Mp} {r : Rl} (hr : r ∈ R) {i j : Nat} (hi : i ≤ n) (hj : j ≤ n) (h : mv xs (r.1, (i : Int), (j : Int)) = false) : todo R n (mput PT .bool xs (r.1, (i : Int), (j : Int)) true) < todo R n xs := by
  refine countP_lt _ _ (fun x hx => ?_) _ (r.1, (i : Int), (j : Int)) ?_ ?_ ?_
  · cases hv : mv xs x with
    | false => rfl
    | true => rw [below_put xs _ x hv] at hx; cases hx
  · exact List.mem_flatMap.2 ⟨r, hr, List.mem_flatMap.2 ⟨i, List.mem_range.2 (by omega), List.mem_map.2 ⟨j, List.mem_range.2 (by omega), rfl⟩⟩⟩
  · rw [mv_put, if_pos rfl]; rfl
  · rw [h]; rfl
/-- Rules of one sign each to the left. -/
def Nice (R : List Rl) : Prop := ∀ x ∈ R, (∃ c, x.1 = [c] ∧ small c = false) ∧ x.2.length ≤ 1000
/-- What a chart tells is so. -/
def Snd (R : List Rl) (s : List UInt8) (xs : Mp) : Prop := ∀ c i j, has xs c i j → Ders R s [c] i j
theorem snd_nil (R : List Rl) (s : List UInt8) : Snd R s [] := fun c i j h => by cases h
theorem snd_put {R : List Rl} {s : List UInt8} {xs : Mp} (h : Snd R s xs) {r : Rl} (hr : r ∈ R) {c : UInt8} (hc : r.1 = [c]) (hs : small c = false) {i j : Nat} (hj : j ≤ s.length) (hsp : split (has xs) s r.2 i j) : Snd R s (mput PT .bool xs (r.1, (i : Int), (j : Int)) true) := by
  intro d a b hd
  unfold has at hd
  rw [mv_put] at hd
  split at hd
  · rename_i e
    simp only [Prod.mk.injEq, hc, List.cons.injEq, and_true] at e
    obtain ⟨rfl, e1, e2⟩ := e
    obtain rfl : a = i := by omega
    obtain rfl : b = j := by omega
    refine .big d r.2 [] a b b hs (hc ▸ hr) (split_sound (fun c i j _ h' => h c i j h') hj hsp) (.nil b hj)
  · exact h d a b hd
/-- How a chart grows. -/
structure Gw (R : List Rl) (s : List UInt8) (ch : Bool) (xs : Mp) (ch' : Bool) (xs' : Mp) : Prop where
  bel : below xs xs'
  snd : Snd R s xs'
  up : ch = true → ch' = true
  less : ch' = true → ch = true ∨ todo R s.length xs' < todo R s.length xs
  same : ch' = false → xs' = xs
theorem Gw.refl {R : List Rl} {s : List UInt8} {ch : Bool} {xs : Mp} (h : Snd R s xs) : Gw R s ch xs ch xs := ⟨fun _ h => h, h, id, .inl, fun _ => rfl⟩
theorem Gw.trans {R : List Rl} {s : List UInt8} {a b c : Bool} {x y z : Mp} (h : Gw R s a x b y) (k : Gw R s b y c z) : Gw R s a x c z := by
  refine ⟨fun v hv => k.bel v (h.bel v hv), k.snd, fun e => k.up (h.up e), fun e => ?_, fun e => ?_⟩
  · rcases k.less e with hb | hl
    · rcases h.less hb with ha | hl
      · exact .inl ha
      · exact .inr (Nat.lt_of_le_of_lt (todo_le R s.length k.bel) hl)
    · exact .inr (Nat.lt_of_lt_of_le hl (todo_le R s.length h.bel))
  · have hb : b = false := by
      cases b with
      | false => rfl
      | true => rw [k.up rfl] at e; cases e
    rw [k.same e, h.same hb]
/-- A part where nothing is left to find. -/
def Shut (s : List UInt8) (xs : Mp) (r : Rl) (i j : Nat) : Prop := split (has xs) s r.2 i j → mv xs (r.1, (i : Int), (j : Int)) = true
theorem closed_all {R : List Rl} (hR : Nice R) {s : List UInt8} {xs : Mp} (h : Snd R s xs) (hc : ∀ r ∈ R, ∀ i j, i ≤ j → j ≤ s.length → Shut s xs r i j) (c : UInt8) (hs : small c = false) (i j : Nat) : has xs c i j ↔ Ders R s [c] i j :=
  ⟨h c i j, fun hd => ders_one (s := s) hs (split_all (fun d q a b hd' hq hab hb hsp => hc _ hq a b hab hb hsp) hd)⟩
/-! charts: impl -/
theorem drop1u (l : List UInt8) (i : Nat) (h : i < l.length) : List.drop i (List.take (i + 1) l) = [l.getD i 0] := by
  rw [List.drop_take, Nat.add_sub_cancel_left, drop_cons l i 0 h]; rfl
theorem getD_some (l : List UInt8) (i : Nat) (h : i < l.length) : l[i]? = some (l.getD i 0) := by
  rw [List.getD_eq_getElem?_getD, List.getElem?_eq_getElem h]; rfl
theorem derives_ev (g : GramT) (s : List UInt8) (hs : s.length ≤ 1000) (xs : Mp) (c : UInt8) (i j : Nat) (hij : i ≤ j) (hj : j ≤ s.length) : EvP (fun k => impl_chart_derives k g.1 g.2 s xs [c] (i : Int) (j : Int)) (fun r => r = true ↔ step (has xs) s c i j) := by
  refine EvP.fn (fun k => impl_chart_derives_eq k _ _ _ _ _ _ _) (EvP.bind (implSignSmall_ev _) fun b hb => ?_)
  have hb : b = small c := hb
  subst hb
  rw [w64 (by omega) (by omega)]
  refine EvP.ite (fun hc => EvP.dec (fun he => ?_) (fun he => EvP.now ⟨fun h => (by cases h), fun h => ?_⟩)) (fun hc => EvP.now ?_)
  · have he : j = i + 1 := by omega
    subst he
    refine EvP.yes (by omega) (EvP.yes (by omega) (EvP.yes (by omega) (EvP.now ?_)))
    rw [Int.toNat_natCast, Int.toNat_natCast, drop1u s i (by omega), decide_eq_true_eq]
    refine ⟨fun h => .inl ⟨hc, rfl, ?_⟩, fun h => ?_⟩
    · rw [getD_some s i (by omega)]; exact congrArg some (List.cons.inj h).1
    · rcases h with ⟨_, _, h⟩ | ⟨h, _⟩
      · rw [getD_some s i (by omega)] at h; rw [Option.some.inj h]
      · rw [hc] at h; cases h
  · rcases h with ⟨_, h, _⟩ | ⟨h, _⟩
    · omega
    · rw [hc] at h; cases h
  · have hc : small c = false := by simpa using hc
    refine ⟨fun h => .inr ⟨hc, h⟩, fun h => ?_⟩
    rcases h with ⟨h, _⟩ | ⟨_, h⟩
    · rw [hc] at h; cases h
    · exact h
theorem split_ev (g : GramT) (s : List UInt8) (hs : s.length ≤ 1000) (xs : Mp) : ∀ (l : List UInt8), l.length ≤ 1000 → ∀ (i j : Nat), i ≤ j → j ≤ s.length → EvP (fun k => impl_chart_split k g.1 g.2 s xs l (i : Int) (j : Int)) (fun r => r = true ↔ split (has xs) s l i j)
  | [], hl, i, j, hij, hj => EvP.fn (fun k => impl_chart_split_eq k _ _ _ _ _ _ _) (EvP.decY rfl (EvP.now (by
      rw [decide_eq_true_eq]
      exact ⟨fun h => by show i = j; omega, fun h => by have h : i = j := h; omega⟩)))
  | c :: l, hl, i, j, hij, hj => by
    have hl : l.length + 1 ≤ 1000 := hl
    have e1 : List.drop (Int.toNat (0 : Int)) (List.take (Int.toNat (1 : Int)) (c :: l)) = [c] := rfl
    have e2 : List.drop (Int.toNat (1 : Int)) (List.take (((c :: l).length : Nat) : Int).toNat (c :: l)) = l := by
      rw [Int.toNat_natCast, List.take_of_length_le (Nat.le_refl _)]; rfl
    have loop : ∀ (q m : Nat), m + q = j + 1 → i ≤ m → EvP (fun k => impl_chart_split_L58 k g.1 g.2 s xs (c :: l) (i : Int) (j : Int) (m : Int)) (fun r => r = true ↔ ∃ m', m ≤ m' ∧ m' ≤ j ∧ step (has xs) s c i m' ∧ split (has xs) s l m' j) := by
      intro q
      induction q with
      | zero =>
        intro m hm him
        exact EvP.fn (fun k => impl_chart_split_L58_eq k _ _ _ _ _ _ _ _) (EvP.decN (by omega) (EvP.now ⟨fun h => (by cases h), fun ⟨m', h1, h2, _⟩ => (by omega)⟩))
      | succ q ih =>
        intro m hm him
        have next : ∀ {P : Prop}, (P → step (has xs) s c i m ∧ split (has xs) s l m j → False) → P → EvP (fun k => impl_chart_split_L58 k g.1 g.2 s xs (c :: l) (i : Int) (j : Int) ((m + 1 : Nat) : Int)) (fun r => r = true ↔ ∃ m', m ≤ m' ∧ m' ≤ j ∧ step (has xs) s c i m' ∧ split (has xs) s l m' j) := fun {P} hno hp =>
          (ih (m + 1) (by omega) (by omega)).mono fun r hr => by
            rw [hr]
            refine ⟨fun ⟨m', h1, h2⟩ => ⟨m', by omega, h2⟩, fun ⟨m', h1, h2, h3⟩ => ⟨m', ?_, h2, h3⟩⟩
            rcases Nat.eq_or_lt_of_le h1 with rfl | h
            · exact absurd h3 (fun h3 => hno hp h3)
            · exact h
        have ew : IntKind.i64.wrap ((m : Int) + 1) = ((m + 1 : Nat) : Int) := w64 (by omega) (by omega)
        refine EvP.fn (fun k => impl_chart_split_L58_eq k _ _ _ _ _ _ _ _) (EvP.decY (by omega) (EvP.yes (by omega) (EvP.yes (by omega) (EvP.yes (by rw [List.length_cons]; omega) ?_))))
        rw [e1, e2, ew]
        refine EvP.bind (derives_ev g s hs xs c i m him (by omega)) fun b hb => EvP.ite (fun h1 => EvP.yes (by omega) (EvP.yes (by rw [List.length_cons]; omega) (EvP.yes (by omega) (EvP.bind (split_ev g s hs xs l (by omega) m j (by omega) hj) fun d hd => EvP.ite (fun h2 => EvP.now ?_) (fun h2 => ?_))))) (fun h1 => ?_)
        · exact ⟨fun _ => ⟨m, Nat.le_refl _, by omega, hb.1 h1, hd.1 h2⟩, fun _ => rfl⟩
        · exact next (fun h2 h => h2 (hd.2 h.2)) h2
        · exact next (fun h1 h => h1 (hb.2 h.1)) h1
    refine EvP.fn (fun k => impl_chart_split_eq k _ _ _ _ _ _ _) (EvP.decN (by simp) ((loop (j + 1 - i) i (by omega) (Nat.le_refl _)).mono fun r hr => ?_))
    rw [hr]
    exact ⟨fun ⟨m, h1, h2, h3⟩ => ⟨m, h1, h2, h3⟩, fun ⟨m, h1, h2, h3⟩ => ⟨m, h1, h2, h3⟩⟩
def Chart (g : GramT) (s : List UInt8) (r : List UInt8 × List Rl × List UInt8 × Mp) : Prop := ∃ xs, r = (g.1, g.2, s, xs) ∧ Snd g.2 s xs ∧ ∀ r ∈ g.2, ∀ i j, i ≤ j → j ≤ s.length → Shut s xs r i j
section
variable {g : GramT} {s : List UInt8} {xs0 : Mp}
theorem rules_chart (hR : Nice g.2) (hg : g.2.length ≤ 1000) (hs : s.length ≤ 1000) {i j : Nat} (hij : i ≤ j) (hj : j ≤ s.length) (D : Prop) {P : (List UInt8 × List Rl × List UInt8 × Mp) → Prop}
    (nx : ∀ xs ch, Gw g.2 s false xs0 ch xs → (ch = false → D ∧ ∀ r ∈ g.2, Shut s xs0 r i j) → EvP (fun k => impl_chartOf_L238994 k s g (g.1, g.2, s, xs) ch (i : Int) ((j + 1 : Nat) : Int)) P) :
    ∀ (n q : Nat), q + n = g.2.length → ∀ xs ch, Gw g.2 s false xs0 ch xs → (ch = false → D ∧ ∀ r ∈ g.2.take q, Shut s xs0 r i j) → EvP (fun k => impl_chartOf_L15295634 k s g (g.1, g.2, s, xs) ch (i : Int) (j : Int) g.2 (g.2.length : Int) (q : Int)) P
  | 0, q, h, xs, ch, hw, hd => by
    refine EvP.fn (fun k => impl_chartOf_L15295634_eq k _ _ _ _ _ _ _ _ _) (EvP.decN (by omega) ?_)
    rw [w64 (by omega) (by omega)]
    rw [List.take_of_length_le (by omega)] at hd
    exact nx xs ch hw hd
  | n + 1, q, h, xs, ch, hw, hd => by
    have hm := getD_mem g.2 q ([], []) (by omega)
    obtain ⟨⟨c, hc, hsm⟩, hlen⟩ := hR _ hm
    have e : g.2.take (q + 1) = g.2.take q ++ [g.2.getD q ([], [])] := by
      rw [List.take_add_one, List.getD_eq_getElem?_getD, List.getElem?_eq_getElem (show q < g.2.length by omega)]; rfl
    have stay : ∀ {p : Prop}, p → (p → ch = false → Shut s xs (g.2.getD q ([], [])) i j) → EvP (fun k => impl_chartOf_L15295634 k s g (g.1, g.2, s, xs) ch (i : Int) (j : Int) g.2 (g.2.length : Int) ((q + 1 : Nat) : Int)) P := fun {p} hp hsh => by
      refine rules_chart hR hg hs hij hj D nx n (q + 1) (by omega) xs ch hw fun hch => ⟨(hd hch).1, fun r hr => ?_⟩
      rw [e] at hr
      rcases List.mem_append.1 hr with hr | hr
      · exact (hd hch).2 r hr
      · rw [List.mem_singleton.1 hr, ← hw.same hch]; exact hsh hp hch
    have ew : IntKind.i64.wrap ((q : Int) + 1) = ((q + 1 : Nat) : Int) := w64 (by omega) (by omega)
    refine EvP.fn (fun k => impl_chartOf_L15295634_eq k _ _ _ _ _ _ _ _ _) (EvP.decY (by omega) (EvP.yes (by omega) (EvP.yes (by omega) ?_)))
    rw [ew, Int.toNat_natCast]
    refine EvP.ite (fun hno => EvP.bind (split_ev g s hs xs (g.2.getD q ([], [])).2 hlen i j hij hj) fun b hb => EvP.ite (fun h2 => ?_) (fun h2 => ?_)) (fun hyes => ?_)
    · have hno : mv xs ((g.2.getD q ([], [])).1, (i : Int), (j : Int)) = false := by
        have hno : (!mv xs ((g.2.getD q ([], [])).1, (i : Int), (j : Int))) = true := hno
        simpa using hno
      have hw2 : Gw g.2 s ch xs true (mput PT .bool xs ((g.2.getD q ([], [])).1, (i : Int), (j : Int)) true) :=
        ⟨below_put _ _, snd_put hw.snd hm hc hsm hj (hb.1 h2), fun _ => rfl, fun _ => .inr (todo_lt _ _ hm (by omega) hj hno), fun h => by cases h⟩
      exact rules_chart hR hg hs hij hj D nx n (q + 1) (by omega) _ true (hw.trans hw2) fun h => by cases h
    · exact stay h2 fun h2 _ hsp => absurd (hb.2 hsp) h2
    · have hyes : mv xs ((g.2.getD q ([], [])).1, (i : Int), (j : Int)) = true := by
        have hyes : ¬ (!mv xs ((g.2.getD q ([], [])).1, (i : Int), (j : Int))) = true := hyes
        simpa using hyes
      exact stay hyes fun h _ _ => h
theorem tos_chart (hR : Nice g.2) (hg : g.2.length ≤ 1000) (hs : s.length ≤ 1000) {i : Nat} (hi : i ≤ s.length) (D : Prop) {P : (List UInt8 × List Rl × List UInt8 × Mp) → Prop}
    (nx : ∀ xs ch, Gw g.2 s false xs0 ch xs → (ch = false → D ∧ ∀ r ∈ g.2, ∀ b, i ≤ b → b ≤ s.length → Shut s xs0 r i b) → EvP (fun k => impl_chartOf_L3734 k s g (g.1, g.2, s, xs) ch ((i : Int) - 1)) P) :
    ∀ (n j : Nat), j + n = s.length + 1 → i ≤ j → ∀ xs ch, Gw g.2 s false xs0 ch xs → (ch = false → D ∧ ∀ r ∈ g.2, ∀ b, i ≤ b → b < j → Shut s xs0 r i b) → EvP (fun k => impl_chartOf_L238994 k s g (g.1, g.2, s, xs) ch (i : Int) (j : Int)) P
  | 0, j, h, hij, xs, ch, hw, hd => by
    refine EvP.fn (fun k => impl_chartOf_L238994_eq k _ _ _ _ _ _) (EvP.decN (by omega) ?_)
    rw [w64 (by omega) (by omega)]
    exact nx xs ch hw fun hch => ⟨(hd hch).1, fun r hr b h1 h2 => (hd hch).2 r hr b h1 (by omega)⟩
  | n + 1, j, h, hij, xs, ch, hw, hd => by
    refine EvP.fn (fun k => impl_chartOf_L238994_eq k _ _ _ _ _ _) (EvP.decY (by omega) ?_)
    refine rules_chart hR hg hs hij (by omega) (D ∧ ∀ r ∈ g.2, ∀ b, i ≤ b → b < j → Shut s xs0 r i b) (fun xs' ch' hw' hd' => tos_chart hR hg hs hi D nx n (j + 1) (by omega) (by omega) xs' ch' hw' fun hch => ⟨(hd' hch).1.1, fun r hr b h1 h2 => ?_⟩) g.2.length 0 (Nat.zero_add _) xs ch hw (fun hch => ⟨hd hch, fun r hr => by cases hr⟩)
    rcases Nat.lt_or_ge b j with hb | hb
    · exact (hd' hch).1.2 r hr b h1 hb
    · obtain rfl : b = j := by omega
      exact (hd' hch).2 r hr
theorem froms_chart (hR : Nice g.2) (hg : g.2.length ≤ 1000) (hs : s.length ≤ 1000) {P : (List UInt8 × List Rl × List UInt8 × Mp) → Prop}
    (nx : ∀ xs ch, Gw g.2 s false xs0 ch xs → (ch = false → ∀ r ∈ g.2, ∀ a b, a ≤ b → b ≤ s.length → Shut s xs0 r a b) → EvP (fun k => impl_chartOf_L58 k s g (g.1, g.2, s, xs) ch) P) :
    ∀ (i : Nat), i ≤ s.length + 1 → ∀ xs ch, Gw g.2 s false xs0 ch xs → (ch = false → ∀ r ∈ g.2, ∀ a b, i ≤ a → a ≤ b → b ≤ s.length → Shut s xs0 r a b) → EvP (fun k => impl_chartOf_L3734 k s g (g.1, g.2, s, xs) ch ((i : Int) - 1)) P
  | 0, h, xs, ch, hw, hd => EvP.fn (fun k => impl_chartOf_L3734_eq k _ _ _ _ _) (EvP.decN (by omega) (nx xs ch hw fun hch r hr a b h1 h2 => hd hch r hr a b (Nat.zero_le _) h1 h2))
  | i + 1, h, xs, ch, hw, hd => by
    have e : (((i + 1 : Nat) : Int) - 1) = (i : Int) := by omega
    rw [e]
    refine EvP.fn (fun k => impl_chartOf_L3734_eq k _ _ _ _ _) (EvP.decY (by omega) ?_)
    refine tos_chart hR hg hs (by omega) (∀ r ∈ g.2, ∀ a b, i + 1 ≤ a → a ≤ b → b ≤ s.length → Shut s xs0 r a b) (fun xs' ch' hw' hd' => froms_chart hR hg hs nx i (by omega) xs' ch' hw' fun hch r hr a b h1 h2 h3 => ?_) (s.length + 1 - i) i (by omega) (Nat.le_refl _) xs ch hw (fun hch => ⟨hd hch, fun r hr b h1 h2 => by omega⟩)
    rcases Nat.eq_or_lt_of_le h1 with rfl | h1
    · exact (hd' hch).2 r hr b h2 h3
    · exact (hd' hch).1 r hr a b h1 h2 h3
theorem while_chart (hR : Nice g.2) (hg : g.2.length ≤ 1000) (hs : s.length ≤ 1000) : ∀ (n : Nat) (xs : Mp), Snd g.2 s xs → todo g.2 s.length xs ≤ n → EvP (fun k => impl_chartOf_L58 k s g (g.1, g.2, s, xs) true) (Chart g s) := by
  intro n
  induction n with
  | zero =>
    intro xs hsn hn
    refine EvP.fn (fun k => impl_chartOf_L58_eq k _ _ _ _) (EvP.yes rfl ?_)
    have := froms_chart (xs0 := xs) (P := Chart g s) hR hg hs (fun xs' ch' hw hd => ?_) (s.length + 1) (Nat.le_refl _) xs false (Gw.refl hsn) (fun _ r hr a b h1 h2 h3 => by omega)
    · have e : (((s.length + 1 : Nat) : Int) - 1) = (s.length : Int) := by omega
      rw [e] at this; exact this
    · cases ch' with
      | true => rcases hw.less rfl with h | h
                · cases h
                · omega
      | false => exact EvP.fn (fun k => impl_chartOf_L58_eq k _ _ _ _) (EvP.no (by simp) (EvP.now ⟨xs', rfl, hw.snd, by rw [hw.same rfl]; exact hd rfl⟩))
  | succ n ih =>
    intro xs hsn hn
    refine EvP.fn (fun k => impl_chartOf_L58_eq k _ _ _ _) (EvP.yes rfl ?_)
    have := froms_chart (xs0 := xs) (P := Chart g s) hR hg hs (fun xs' ch' hw hd => ?_) (s.length + 1) (Nat.le_refl _) xs false (Gw.refl hsn) (fun _ r hr a b h1 h2 h3 => by omega)
    · have e : (((s.length + 1 : Nat) : Int) - 1) = (s.length : Int) := by omega
      rw [e] at this; exact this
    · cases ch' with
      | true =>
        rcases hw.less rfl with h | h
        · cases h
        · exact ih xs' hw.snd (by omega)
      | false => exact EvP.fn (fun k => impl_chartOf_L58_eq k _ _ _ _) (EvP.no (by simp) (EvP.now ⟨xs', rfl, hw.snd, by rw [hw.same rfl]; exact hd rfl⟩))
end
theorem chart_ev (g : GramT) (s : List UInt8) (hR : Nice g.2) (hg : g.2.length ≤ 1000) (hs : s.length ≤ 1000) : EvP (fun k => impl_chartOf k g.1 g.2 s) (Chart g s) :=
  EvP.fn (fun k => impl_chartOf_eq k _ _ _) (while_chart hR hg hs _ [] (snd_nil _ _) (Nat.le_refl _))
theorem nice_of {g : GramT} (h : GramOkP g) : Nice g.2 := by
  intro x hx
  obtain ⟨j, hj, rfl⟩ := List.mem_iff_getElem.1 hx
  have := (h.2.2 j hj).1
  rw [List.getD_eq_getElem?_getD, List.getElem?_eq_getElem hj] at this
  have this : ruleOk g.2[j] = true := this
  unfold ruleOk at this
  simp only [Bool.and_eq_true, decide_eq_true_eq] at this
  obtain ⟨h1, h2, h3⟩ := this
  refine ⟨?_, by omega⟩
  match hx : g.2[j].1, h1 with
  | [c], h1 =>
    refine ⟨c, rfl, ?_⟩
    have h1 : big c = true := h1
    unfold big at h1
    unfold small
    simp only [Bool.and_eq_true, decide_eq_true_eq] at h1
    simp only [Bool.and_eq_false_imp, decide_eq_true_eq, decide_eq_false_iff_not]
    omega
theorem isDerived_ev (g : GramT) (s : List UInt8) (hok : GramOkP g) (hs : s.length ≤ 1000) : EvP (fun k => impl_isDerived k g.1 g.2 s) (fun r => r = true ↔ Ders g.2 s g.1 0 s.length) := by
  have hg := hok.2.1
  have hR := nice_of hok
  refine EvP.fn (fun k => impl_isDerived_eq k _ _ _) (EvP.bind (chart_ev g s hR (by omega) hs) fun x hx => ?_)
  obtain ⟨xs, rfl, h1, h2⟩ := hx
  have hb := hok.1
  match hg1 : g.1, hb with
  | [c], hb =>
    have hb : big c = true := hb
    have hc : small c = false := by
      unfold big at hb
      unfold small
      simp only [Bool.and_eq_true, decide_eq_true_eq] at hb
      simp only [Bool.and_eq_false_imp, decide_eq_true_eq, decide_eq_false_iff_not]
      omega
    have hd := derives_ev g s hs xs c 0 s.length (Nat.zero_le _) (Nat.le_refl _)
    rw [hg1] at hd
    refine EvP.bind hd fun b hb => EvP.now ?_
    rw [hb, ← closed_all hR h1 h2 c hc 0 s.length]
    exact ⟨fun h => by
      rcases h with ⟨h, _⟩ | ⟨_, h⟩
      · rw [hc] at h; cases h
      · exact h, fun h => .inr ⟨hc, h⟩⟩
/-! whether a text comes of rules: impl -/
def AllP (g : GramT) (s : List UInt8) : Prop := GramOkP g ∧ textOk s = true ∧ Ders g.2 s g.1 0 s.length
theorem implAll_ev (g : GramT) (s : List UInt8) : EvP (fun k => impl_AllIs k g.1 g.2 s) (fun r => r = true ↔ AllP g s) := by
  refine EvP.fn (fun k => impl_AllIs_eq k _ _ _) (EvP.bind (P := fun r => r = true ↔ GramOkP g ∧ textOk s = true) (EvP.fn (fun k => impl_areBoth_eq k _ _ _) (EvP.bind (implGramOk_ev g) fun b hb => EvP.ite (fun h => EvP.bind (implTextOk_ev s) fun c hc => EvP.now ?_) (fun h => EvP.now ?_))) fun b hb => EvP.ite (fun h => ?_) (fun h => EvP.now ?_))
  · rw [hc]; exact ⟨fun h' => ⟨hb.1 h, h'⟩, fun h' => h'.2⟩
  · exact ⟨fun h => (by cases h), fun h' => absurd (hb.2 h'.1) h⟩
  · obtain ⟨h1, h2⟩ := hb.1 h
    have hl : s.length ≤ 8 := by
      unfold textOk at h2
      simp only [Bool.and_eq_true, decide_eq_true_eq] at h2
      exact h2.2
    refine EvP.bind (isDerived_ev g s h1 (by omega)) fun c hc => EvP.now ?_
    rw [hc]; exact ⟨fun h' => ⟨h1, h2, h'⟩, fun h' => h'.2.2⟩
  · exact ⟨fun h => (by cases h), fun h' => absurd (hb.2 ⟨h'.1, h'.2.1⟩) h⟩
/-! rules and a text drawn -/
theorem l4SomeG_L7_ev {m : Nat} {b : List Int} {p : Int} (hr : Rd (m + 10) b p) : EvP (fun k => spec_l4Some_L7 k (b, p)) (fun r => r.1.length ≤ 20 ∧ Rd m r.2.1 r.2.2) := by
  refine EvP.fn (fun k => spec_l4Some_L7_eq k _) (EvP.bind (pick_ev (m := m + 9) hr (by omega) (by omega)) fun a ha => EvP.bind (l4Text_ev (m := m + 3) (n := 6) ha.1 (by omega) (by omega) (ha.2.2.less (by omega))) fun c hc => EvP.bind (pick_ev (m := m + 2) hc.2 (by omega) (by omega)) fun d hd => ?_)
  refine EvP.dec (fun _ => EvP.bind (of_ev (m := m + 1) hd.2.2 _ (by simp) (by simp)) fun e he => ?_) (fun _ => EvP.now ⟨by show c.1.length ≤ 20; omega, hd.2.2.less (by omega)⟩)
  have hl : e.1.length ≤ 9 := by
    have := he.1
    simp only [List.mem_cons, List.not_mem_nil, or_false] at this
    rcases this with h | h | h | h <;> rw [h] <;> decide
  exact EvP.yes (by omega) (EvP.now ⟨by show (c.1 ++ e.1).length ≤ 20; simp; omega, he.2.less (by omega)⟩)
theorem l4SomeG_ev (g : GramT) (hg : Gr 10 g) {m : Nat} {b : List Int} {p : Int} (hr : Rd (m + 100000) b p) : EvP (fun k => spec_l4Some k b p g.1 g.2) (fun r => r.1.length ≤ 1000000 ∧ Rd m r.2.1 r.2.2) := by
  have hg2 := hg.2.1
  have hs : ∀ y ∈ g.2, y.2.length ≤ 1000000 := fun y hy => by have := (hg.2.2 y hy).2; omega
  have hR : Rn 6 = 3906 := by decide
  have fin : ∀ {b : List Int} {p : Int}, Rd (m + 10) b p → EvP (fun k => spec_l4Some_L7 k (b, p)) (fun r => r.1.length ≤ 1000000 ∧ Rd m r.2.1 r.2.2) := fun hr => (l4SomeG_L7_ev hr).mono fun r hr => ⟨by have := hr.1; omega, hr.2⟩
  refine EvP.fn (fun k => spec_l4Some_eq k _ _ _ _) (EvP.bind (specGramOk_ev g hs) fun x hx => EvP.ite (fun _ => EvP.bind (pick_ev (m := m + 90000) (hr.less (by omega)) (by omega) (by omega)) fun a ha => EvP.dec (fun _ => EvP.bind (num_ev (m := m + 80000) (ha.2.2.less (by omega)) _ (by simp) (by simp)) fun c hc => ?_) (fun _ => fin (ha.2.2.less (by omega)))) (fun _ => fin (hr.less (by omega))))
  have hcd : c.1 ≤ 6 := by
    have := hc.1
    simp only [List.mem_cons, List.not_mem_nil, or_false] at this
    omega
  refine EvP.bind (any_ev g (hg.more (by omega)) 6 (by omega) (m := m + 10000) (hc.2.less (by omega)) g.1 hg.1 c.1 hcd) fun t ht => ?_
  have hsl : Slim 6 7 (Tr.mk t.1.1 t.1.2.1 t.1.2.2) := ht.1.more (by omega) (by omega)
  have hy := yield_le 7 _ hsl
  have hz := sz_le 7 _ hsl 7
  have h7 : 7 ^ 7 = 823543 := by decide
  refine EvP.bind (l3Yield_ev 7 (by omega) (Tr.mk t.1.1 t.1.2.1 t.1.2.2) hsl) fun y hyy => ?_
  subst hyy
  exact EvP.bind (specTextOk_ev _ (by omega)) fun o ho => EvP.ite (fun _ => EvP.now ⟨by show (yieldE _).length ≤ _; omega, ht.2.less (by omega)⟩) (fun _ => fin (ht.2.less (by omega)))
theorem l4Draw_ev (l : List Int) (h : ∀ x ∈ l, (Lit.int .u8 x).wf = true) : EvP (fun k => spec_l4Draw k l) (fun r => Gr 10 r.1 ∧ r.2.length ≤ 1000000) := by
  refine EvP.fn (fun k => spec_l4Draw_eq k _) (EvP.bind (open_ev l h) fun o ho => EvP.bind (gram_ev (m := 3000000) (ho.less (by omega))) fun a ha => EvP.bind (bentG_ev (m := 2000000) (ha.2.less (by omega)) 8 (by omega) (by omega) a.1 (ha.1.more (by omega))) fun c hc => ?_)
  exact EvP.bind (l4SomeG_ev c.1 (hc.1.more (by omega)) (m := 1000) (hc.2.less (by omega))) fun d hd => EvP.now ⟨hc.1.more (by omega), hd.1⟩
theorem drawAllIs_ev (l : List Int) (h : ∀ x ∈ l, (Lit.int .u8 x).wf = true) : EvP (fun k => spec_DrawAllIs k l) (fun r => Gr 10 r.1 ∧ r.2.length ≤ 1000000) :=
  EvP.fn (fun k => spec_DrawAllIs_eq k _) (EvP.bind (l4Draw_ev l h) fun x hx => EvP.now hx)
/-! least costs -/
/-- x is the least number of P, told up to F. -/
structure Lst (F : Nat) (P : Nat → Prop) (x : Nat) : Prop where
  so : x < F → P x
  le : x ≤ F
  all : ∀ y, P y → x ≤ y
theorem Lst.none {F : Nat} {P : Nat → Prop} (h : ∀ y, ¬ P y) : Lst F P F := ⟨fun h' => absurd h' (Nat.lt_irrefl _), Nat.le_refl _, fun y hy => absurd hy (h y)⟩
theorem Lst.one {F n : Nat} {P : Nat → Prop} (hn : n ≤ F) (h : P n) (h' : ∀ y, P y → y = n) : Lst F P n := ⟨fun _ => h, hn, fun y hy => Nat.le_of_eq (h' y hy).symm⟩
theorem Lst.congr {F x : Nat} {P Q : Nat → Prop} (h : Lst F P x) (e : ∀ y, P y ↔ Q y) : Lst F Q x := ⟨fun h' => (e _).1 (h.so h'), h.le, fun y hy => h.all y ((e y).2 hy)⟩
theorem Lst.eq {F F' x y z : Nat} {P : Nat → Prop} (h : Lst F P x) (h' : Lst F' P y) (hz : P z) (h1 : z < F) (h2 : z < F') : x = y := by
  have a := h.all z hz
  have b := h'.all z hz
  have c := h.all y (h'.so (by omega))
  have d := h'.all x (h.so (by omega))
  omega
/-- One way more. -/
theorem Lst.step {F x y z : Nat} {P Q R : Nat → Prop} (h : Lst F P x) (hq : Lst F Q y) (hr : Lst F R z) : Lst F (fun v => P v ∨ ∃ a b, Q a ∧ R b ∧ v = a + b) (min x (y + z)) := by
  refine ⟨fun hlt => ?_, by have := h.le; omega, fun v hv => ?_⟩
  · rcases Nat.le_total x (y + z) with hc | hc
    · rw [Nat.min_eq_left hc] at hlt ⊢; exact .inl (h.so hlt)
    · rw [Nat.min_eq_right hc] at hlt ⊢; exact .inr ⟨y, z, hq.so (by omega), hr.so (by omega), rfl⟩
  · rcases hv with hv | ⟨a, b, ha, hb, rfl⟩
    · have := h.all v hv; omega
    · have := hq.all a ha; have := hr.all b hb; omega
/-- What signs cost between two places: S tells it of a sign. -/
def Sp (S : UInt8 → Nat → Nat → Nat → Prop) : List UInt8 → Nat → Nat → Nat → Prop
  | [], i, j, x => i = j ∧ x = 0
  | c :: r, i, j, x => ∃ m y z, S c i m y ∧ Sp S r m j z ∧ x = y + z
theorem Sp.snoc {S : UInt8 → Nat → Nat → Nat → Prop} (c : UInt8) : ∀ (l : List UInt8) (i j x : Nat), Sp S (l ++ [c]) i j x ↔ ∃ m y z, Sp S l i m y ∧ S c m j z ∧ x = y + z
  | [], i, j, x => by
    constructor
    · rintro ⟨m, y, z, h1, ⟨h2, h3⟩, h4⟩; subst h2; exact ⟨i, 0, y, ⟨rfl, rfl⟩, h1, by omega⟩
    · rintro ⟨m, y, z, ⟨h1, h3⟩, h2, h4⟩; subst h1; exact ⟨j, z, 0, h2, ⟨rfl, rfl⟩, by omega⟩
  | d :: l, i, j, x => by
    constructor
    · rintro ⟨m, y, z, h1, h2, rfl⟩
      obtain ⟨m', y', z', h3, h4, rfl⟩ := (Sp.snoc c l m j z).1 h2
      exact ⟨m', y + y', z', ⟨m, y, y', h1, h3, rfl⟩, h4, by omega⟩
    · rintro ⟨m', y', z', ⟨m, y, y2, h1, h3, rfl⟩, h4, rfl⟩
      exact ⟨m, y, y2 + z', h1, (Sp.snoc c l m j _).2 ⟨m', y2, z', h3, h4, rfl⟩, by omega⟩
/-- What signs cost between two places. b: a small sign; e: a rule with nothing on its right. -/
inductive Cst (R : List Rl) (b : UInt8 → Nat → Nat → Nat → Prop) (e : Nat → Nat → Nat → Prop) : List UInt8 → Nat → Nat → Nat → Prop
  | nil (i : Nat) : Cst R b e [] i i 0
  | small (c : UInt8) (r : List UInt8) (i m j x y : Nat) (hc : small c = true) (h : b c i m x) (hr : Cst R b e r m j y) : Cst R b e (c :: r) i j (x + y)
  | none (c : UInt8) (r : List UInt8) (i m j x y : Nat) (hc : small c = false) (h : ([c], []) ∈ R) (he : e i m x) (hr : Cst R b e r m j y) : Cst R b e (c :: r) i j (x + y)
  | big (c d : UInt8) (q r : List UInt8) (i m j x y : Nat) (hc : small c = false) (h : ([c], d :: q) ∈ R) (hq : Cst R b e (d :: q) i m x) (hr : Cst R b e r m j y) : Cst R b e (c :: r) i j (x + y)
section
variable {R : List Rl} {b : UInt8 → Nat → Nat → Nat → Prop} {e : Nat → Nat → Nat → Prop}
theorem Cst.append {l k : List UInt8} {i m j x y : Nat} (h : Cst R b e l i m x) (h' : Cst R b e k m j y) : Cst R b e (l ++ k) i j (x + y) := by
  induction h generalizing y with
  | nil i => rw [Nat.zero_add]; exact h'
  | small c r i m j x z hc h hr ih => rw [Nat.add_assoc]; exact .small c _ i m _ x _ hc h (ih h')
  | none c r i m j x z hc h he hr ih => rw [Nat.add_assoc]; exact .none c _ i m _ x _ hc h he (ih h')
  | big c d q r i m j x z hc h hq hr ih1 ih2 => rw [Nat.add_assoc]; exact .big c d q _ i m _ x _ hc h hq (ih2 h')
/-- What a rule's right costs. -/
def Rt (S : UInt8 → Nat → Nat → Nat → Prop) (e : Nat → Nat → Nat → Prop) : List UInt8 → Nat → Nat → Nat → Prop
  | [], i, j, x => e i j x
  | c :: r, i, j, x => Sp S (c :: r) i j x
/-- One sign, as a chart tells it. -/
def Sg (b : UInt8 → Nat → Nat → Nat → Prop) (F : Nat) (v : UInt8 → Nat → Nat → Nat) (c : UInt8) (i j x : Nat) : Prop := (small c = true ∧ b c i j x) ∨ (small c = false ∧ x = v c i j ∧ x < F)
theorem Sp.sound {S : UInt8 → Nat → Nat → Nat → Prop} (h : ∀ c i j x, S c i j x → Cst R b e [c] i j x) : ∀ (l : List UInt8) (i j x : Nat), Sp S l i j x → Cst R b e l i j x
  | [], i, j, x, ⟨h1, h2⟩ => by subst h1; subst h2; exact .nil i
  | c :: r, i, j, x, ⟨m, y, z, h1, h2, h3⟩ => by subst h3; exact (h c i m y h1).append (Sp.sound h r m j z h2)
theorem rt_sound {S : UInt8 → Nat → Nat → Nat → Prop} (h : ∀ c i j x, S c i j x → Cst R b e [c] i j x) {c : UInt8} {q : List UInt8} (hc : small c = false) (hq : ([c], q) ∈ R) {i j x : Nat} (hx : Rt S e q i j x) : Cst R b e [c] i j x := by
  cases q with
  | nil => exact .none c [] i j j x 0 hc hq hx (.nil j)
  | cons d q => exact .big c d q [] i j j x 0 hc hq (Sp.sound h _ i j x hx) (.nil j)
/-- A chart that is closed tells all. -/
theorem cst_closed {F : Nat} {v : UInt8 → Nat → Nat → Nat}
    (hc : ∀ c q i j x, small c = false → ([c], q) ∈ R → Rt (Sg b F v) e q i j x → v c i j ≤ x) {l : List UInt8} {i j x : Nat} (h : Cst R b e l i j x) : F ≤ x ∨ ∃ y, y ≤ x ∧ Sp (Sg b F v) l i j y := by
  induction h with
  | nil i => exact .inr ⟨0, Nat.le_refl _, rfl, rfl⟩
  | small c r i m j x y hs h hr ih =>
    rcases ih with ih | ⟨z, hz, ih⟩
    · exact .inl (by omega)
    · exact .inr ⟨x + z, by omega, m, x, z, .inl ⟨hs, h⟩, ih, rfl⟩
  | none c r i m j x y hs h he hr ih =>
    have := hc c [] i m x hs h he
    rcases ih with ih | ⟨z, hz, ih⟩
    · exact .inl (by omega)
    · by_cases hF : v c i m < F
      · exact .inr ⟨v c i m + z, by omega, m, _, z, .inr ⟨hs, rfl, hF⟩, ih, rfl⟩
      · exact .inl (by omega)
  | big c d q r i m j x y hs h hq hr ih1 ih2 =>
    rcases ih1 with ih1 | ⟨w, hw, ih1⟩
    · exact .inl (by omega)
    · have := hc c (d :: q) i m w hs h ih1
      rcases ih2 with ih | ⟨z, hz, ih⟩
      · exact .inl (by omega)
      · by_cases hF : v c i m < F
        · exact .inr ⟨v c i m + z, by omega, m, _, z, .inr ⟨hs, rfl, hF⟩, ih, rfl⟩
        · exact .inl (by omega)
theorem cst_least {F : Nat} {v : UInt8 → Nat → Nat → Nat} (hs : ∀ c i j, small c = false → v c i j < F → Cst R b e [c] i j (v c i j)) (hF : ∀ c i j, v c i j ≤ F)
    (hc : ∀ c q i j x, small c = false → ([c], q) ∈ R → Rt (Sg b F v) e q i j x → v c i j ≤ x) (c : UInt8) (h : small c = false) (i j : Nat) : Lst F (Cst R b e [c] i j) (v c i j) := by
  refine ⟨hs c i j h, hF c i j, fun y hy => ?_⟩
  rcases cst_closed hc hy with h' | ⟨z, hz, m, a, k, h1, ⟨rfl, rfl⟩, rfl⟩
  · exact Nat.le_trans (hF c i j) h'
  · rcases h1 with ⟨h1, _⟩ | ⟨_, rfl, _⟩
    · rw [h] at h1; cases h1
    · omega
theorem Cst.more {R' : List Rl} (hR : ∀ x ∈ R, x ∈ R') {l : List UInt8} {i j x : Nat} (h : Cst R b e l i j x) : Cst R' b e l i j x := by
  induction h with
  | nil i => exact .nil i
  | small c r i m j x z hc h hr ih => exact .small c _ i m _ x _ hc h ih
  | none c r i m j x z hc h he hr ih => exact .none c _ i m _ x _ hc (hR _ h) he ih
  | big c d q r i m j x z hc h hq hr ih1 ih2 => exact .big c d q _ i m _ x _ hc (hR _ h) ih1 ih2
end
/-! charts of costs -/
def keysC (n : Nat) : List (UInt8 × Nat × Nat) := [65, 66, 67, 68, 69].flatMap fun c => (List.range (n + 1)).flatMap fun i => (List.range (n + 1)).map fun j => (c, i, j)
theorem big_five {c : UInt8} (h : big c = true) : c ∈ ([65, 66, 67, 68, 69] : List UInt8) := by
  unfold big at h
  simp only [Bool.and_eq_true, decide_eq_true_eq] at h
  obtain ⟨m, hm⟩ : ∃ m, c.toNat = m := ⟨_, rfl⟩
  have hc : c = UInt8.ofNat m := by rw [← hm]; simp
  have : m = 65 ∨ m = 66 ∨ m = 67 ∨ m = 68 ∨ m = 69 := by omega
  rcases this with rfl | rfl | rfl | rfl | rfl <;> subst hc <;> decide
theorem mem_keysC {n i j : Nat} {c : UInt8} (hc : big c = true) (hi : i ≤ n) (hj : j ≤ n) : (c, i, j) ∈ keysC n :=
  List.mem_flatMap.2 ⟨c, big_five hc, List.mem_flatMap.2 ⟨i, List.mem_range.2 (by omega), List.mem_map.2 ⟨j, List.mem_range.2 (by omega), rfl⟩⟩⟩
theorem sumc_le {α : Type} (f g : α → Nat) (h : ∀ a, f a ≤ g a) : ∀ l : List α, (l.map f).sum ≤ (l.map g).sum
  | [] => Nat.le_refl _
  | a :: l => by
    have := sumc_le f g h l
    have := h a
    simp only [List.map_cons, List.sum_cons]
    omega
theorem sumc_lt {α : Type} (f g : α → Nat) (h : ∀ a, f a ≤ g a) : ∀ (l : List α) (a : α), a ∈ l → f a < g a → (l.map f).sum < (l.map g).sum
  | b :: l, a, ha, hlt => by
    simp only [List.map_cons, List.sum_cons]
    rcases List.mem_cons.1 ha with rfl | ha
    · have := sumc_le f g h l
      omega
    · have := sumc_lt f g h l a ha hlt
      have := h b
      omega
section
variable {X : Type} (V : X → UInt8 → Nat → Nat → Nat) (R : List Rl) (b : UInt8 → Nat → Nat → Nat → Prop) (e : Nat → Nat → Nat → Prop) (F n : Nat)
def totC (x : X) : Nat := ((keysC n).map fun z => V x z.1 z.2.1 z.2.2).sum
structure SndC (x : X) : Prop where
  so : ∀ c i j, small c = false → V x c i j < F → Cst R b e [c] i j (V x c i j)
  le : ∀ c i j, V x c i j ≤ F
structure GwC (ch : Bool) (x : X) (ch' : Bool) (y : X) : Prop where
  dn : ∀ c i j, V y c i j ≤ V x c i j
  snd : SndC V R b e F y
  up : ch = true → ch' = true
  less : ch' = true → ch = true ∨ totC V n y < totC V n x
  same : ch' = false → y = x
end
section
variable {X : Type} {V : X → UInt8 → Nat → Nat → Nat} {R : List Rl} {b : UInt8 → Nat → Nat → Nat → Prop} {e : Nat → Nat → Nat → Prop} {F n : Nat}
theorem GwC.refl {ch : Bool} {x : X} (h : SndC V R b e F x) : GwC V R b e F n ch x ch x := ⟨fun _ _ _ => Nat.le_refl _, h, id, .inl, fun _ => rfl⟩
theorem GwC.trans {p q r : Bool} {x y z : X} (h : GwC V R b e F n p x q y) (k : GwC V R b e F n q y r z) : GwC V R b e F n p x r z := by
  refine ⟨fun c i j => Nat.le_trans (k.dn c i j) (h.dn c i j), k.snd, fun h' => k.up (h.up h'), fun h' => ?_, fun h' => ?_⟩
  · rcases k.less h' with hb | hl
    · rcases h.less hb with ha | hl
      · exact .inl ha
      · exact .inr (Nat.lt_of_le_of_lt (sumc_le _ _ (fun z => k.dn _ _ _) _) hl)
    · exact .inr (Nat.lt_of_lt_of_le hl (sumc_le _ _ (fun z => h.dn _ _ _) _))
  · have hb : q = false := by
      cases q with
      | false => rfl
      | true => rw [k.up rfl] at h'; cases h'
    rw [k.same h', h.same hb]
theorem SndC.sg {x : X} (h : SndC V R b e F x) : ∀ c i j v, Sg b F (V x) c i j v → Cst R b e [c] i j v := fun c i j v hv => by
  rcases hv with ⟨h1, h2⟩ | ⟨h1, rfl, h3⟩
  · exact .small c [] i j j v 0 h1 h2 (.nil j)
  · exact h.so c i j h1 h3
/-- A part that costs less. -/
theorem GwC.put {ch : Bool} {x y : X} (h : SndC V R b e F x) {c : UInt8} (hc : big c = true) {i j v : Nat} (hi : i ≤ n) (hj : j ≤ n)
    (hv : Cst R b e [c] i j v) (hlt : v < V x c i j) (hy : ∀ d k m, V y d k m = if d = c ∧ k = i ∧ m = j then v else V x d k m) : GwC V R b e F n ch x true y := by
  have dn : ∀ d k m, V y d k m ≤ V x d k m := fun d k m => by
    rw [hy]; split
    · rename_i hh; obtain ⟨rfl, rfl, rfl⟩ := hh; omega
    · exact Nat.le_refl _
  refine ⟨dn, ⟨fun d k m hd hl => ?_, fun d k m => Nat.le_trans (dn d k m) (h.le d k m)⟩, fun _ => rfl, fun _ => .inr (sumc_lt _ _ (fun z => dn _ _ _) _ (c, i, j) (mem_keysC hc hi hj) ?_), fun h' => by cases h'⟩
  · rw [hy] at hl ⊢
    split at hl
    · rename_i hh; obtain ⟨rfl, rfl, rfl⟩ := hh
      rw [if_pos ⟨rfl, rfl, rfl⟩]
      exact hv
    · rename_i hh
      rw [if_neg hh]
      exact h.so d k m hd hl
  · show V y c i j < V x c i j
    rw [hy, if_pos ⟨rfl, rfl, rfl⟩]; exact hlt
theorem Lst.skip {F x : Nat} {P Q S : Nat → Prop} (h : Lst F P x) (hq : ∀ a b, Q a → S b → F ≤ a + b) : Lst F (fun v => P v ∨ ∃ a b, Q a ∧ S b ∧ v = a + b) x := by
  refine ⟨fun hlt => .inl (h.so hlt), h.le, fun v hv => ?_⟩
  rcases hv with hv | ⟨a, b, ha, hb, rfl⟩
  · exact h.all v hv
  · exact Nat.le_trans h.le (hq a b ha hb)
end
/-! lengths of what walks let by -/
abbrev FM : Nat := 1152921504606846976
def aB (a : AutoT) (c : UInt8) (i j x : Nat) : Prop := i < a.2.1.length ∧ j < a.2.1.length ∧ goR a (i : Int) (c.toNat - 97) = (j : Int) ∧ x = 1
def aE (n : Nat) (i j x : Nat) : Prop := i = j ∧ i < n ∧ x = 0
theorem aB_le {a : AutoT} {c : UInt8} {i j x : Nat} (h : aB a c i j x) : i < a.2.1.length ∧ j < a.2.1.length := ⟨h.1, h.2.1⟩
theorem cstM_lt {R : List Rl} {a : AutoT} {l : List UInt8} {i j x : Nat} (h : Cst R (aB a) (aE a.2.1.length) l i j x) : l ≠ [] → i < a.2.1.length ∧ j < a.2.1.length := by
  induction h with
  | nil i => exact fun h => absurd rfl h
  | small c r i m j x y hc h hr ih =>
    intro _
    have := aB_le h
    refine ⟨this.1, ?_⟩
    cases hr with
    | nil => exact this.2
    | _ => exact (ih (by simp)).2
  | none c r i m j x y hc h he hr ih =>
    intro _
    obtain ⟨rfl, h2, _⟩ := he
    refine ⟨h2, ?_⟩
    cases hr with
    | nil => exact h2
    | _ => exact (ih (by simp)).2
  | big c d q r i m j x y hc h hq hr ih1 ih2 =>
    intro _
    have h2 := ih1 (by simp)
    refine ⟨h2.1, ?_⟩
    cases hr with
    | nil => exact h2.2
    | _ => exact (ih2 (by simp)).2
abbrev Mm := List (Key × Int)
abbrev JT : Ty := .int .i64
def mcm (xs : Mm) (z : Key) : Int := if mhas PT JT xs z = true then mval PT JT xs z else 1152921504606846976
theorem mcm_put : ∀ (xs : Mm) (x : Key) (v : Int) (z : Key), mcm (mput PT JT xs x v) z = if z = x then v else mcm xs z
  | [], x, v, z => by
    show (if (match eqD PT z x with | true => true | false => false) = true then (match eqD PT z x with | true => v | false => _) else _) = _
    rw [eqD_key]
    by_cases h : z = x <;> simp [h, mcm, mhas]
  | p :: r, x, v, z => by
    have ih := mcm_put r x v z
    unfold mput
    cases hx : eqD PT x p.1 with
    | true =>
      have hx' : x = p.1 := by rw [eqD_key] at hx; exact of_decide_eq_true hx
      dsimp only
      unfold mcm mhas mval
      rw [eqD_key, hx']
      by_cases h : z = p.1 <;> simp [h]
    | false =>
      have hx' : ¬ x = p.1 := by rw [eqD_key] at hx; exact of_decide_eq_false hx
      dsimp only
      unfold mcm at ih ⊢
      unfold mhas mval
      rw [eqD_key]
      by_cases h : z = p.1
      · have : ¬ z = x := fun e => hx' (e.symm.trans h)
        simp [h, this]
        intro e; exact absurd e.symm hx'
      · simp only [h, decide_false]
        exact ih
def Vm (xs : Mm) (c : UInt8) (i j : Nat) : Nat := (mcm xs ([c], (i : Int), (j : Int))).toNat
def NnM (xs : Mm) : Prop := ∀ z, 0 ≤ mcm xs z
theorem vm_put (xs : Mm) (c : UInt8) (i j v : Nat) (d : UInt8) (k m : Nat) : Vm (mput PT JT xs ([c], (i : Int), (j : Int)) (v : Int)) d k m = if d = c ∧ k = i ∧ m = j then v else Vm xs d k m := by
  unfold Vm
  rw [mcm_put]
  by_cases h : d = c ∧ k = i ∧ m = j
  · obtain ⟨rfl, rfl, rfl⟩ := h
    rw [if_pos rfl, if_pos ⟨rfl, rfl, rfl⟩, Int.toNat_natCast]
  · rw [if_neg h, if_neg]
    intro e
    simp only [Prod.mk.injEq, List.cons.injEq, and_true] at e
    exact h ⟨e.1, by omega, by omega⟩
section
variable {R : List Rl} {a : AutoT} {xs : Mm}
abbrev SgA (a : AutoT) (v : UInt8 → Nat → Nat → Nat) := Sg (aB a) FM v
abbrev SndA (R : List Rl) (a : AutoT) (xs : Mm) := SndC Vm R (aB a) (aE a.2.1.length) FM xs
theorem sgA_lt (h : SndA R a xs) {c : UInt8} {i j v : Nat} (hv : SgA a (Vm xs) c i j v) : i < a.2.1.length ∧ j < a.2.1.length := cstM_lt (h.sg c i j v hv) (by simp)
/-- What one sign costs. -/
def sga (a : AutoT) (v : UInt8 → Nat → Nat → Nat) (c : UInt8) (i j : Nat) : Nat := if small c = true then (if goR a (i : Int) (c.toNat - 97) = (j : Int) then 1 else FM) else v c i j
theorem sga_lst (h : SndA R a xs) (c : UInt8) (i j : Nat) (hi : i < a.2.1.length) (hj : j < a.2.1.length) : Lst FM (SgA a (Vm xs) c i j) (sga a (Vm xs) c i j) := by
  unfold sga
  split
  · rename_i hc
    split
    · rename_i he
      refine Lst.one (by decide) (.inl ⟨hc, hi, hj, he, rfl⟩) fun y hy => ?_
      rcases hy with ⟨_, _, _, _, rfl⟩ | ⟨h1, _⟩
      · rfl
      · rw [hc] at h1; cases h1
    · rename_i he
      refine Lst.none fun y hy => ?_
      rcases hy with ⟨_, _, _, h3, _⟩ | ⟨h1, _⟩
      · exact he h3
      · rw [hc] at h1; cases h1
  · rename_i hc
    have hc : small c = false := by simpa using hc
    refine ⟨fun hlt => .inr ⟨hc, rfl, hlt⟩, h.le c i j, fun y hy => ?_⟩
    rcases hy with ⟨h1, _⟩ | ⟨_, rfl, _⟩
    · rw [hc] at h1; cases h1
    · exact Nat.le_refl _
def MidM (S : UInt8 → Nat → Nat → Nat → Prop) (p : List UInt8) (c : UInt8) (i k j v : Nat) : Prop := ∃ m, m < k ∧ ∃ a d, Sp S p i m a ∧ S c m j d ∧ v = a + d
theorem midM_next {S : UInt8 → Nat → Nat → Nat → Prop} {p : List UInt8} {c : UInt8} {i k j v : Nat} : MidM S p c i (k + 1) j v ↔ (MidM S p c i k j v ∨ ∃ a d, Sp S p i k a ∧ S c k j d ∧ v = a + d) := by
  constructor
  · rintro ⟨m, hm, a, d, h1, h2, h3⟩
    rcases Nat.lt_or_ge m k with h | h
    · exact .inl ⟨m, h, a, d, h1, h2, h3⟩
    · obtain rfl : m = k := by omega
      exact .inr ⟨a, d, h1, h2, h3⟩
  · rintro (⟨m, hm, h⟩ | h)
    · exact ⟨m, by omega, h⟩
    · exact ⟨k, by omega, h⟩
theorem midM_all (h : SndA R a xs) {p : List UInt8} {c : UInt8} {i j v : Nat} : MidM (SgA a (Vm xs)) p c i a.2.1.length j v ↔ Sp (SgA a (Vm xs)) (p ++ [c]) i j v := by
  rw [Sp.snoc]
  constructor
  · rintro ⟨m, hm, a, d, h1, h2, h3⟩; exact ⟨m, a, d, h1, h2, h3⟩
  · rintro ⟨m, a, d, h1, h2, h3⟩; exact ⟨m, (sgA_lt h h2).1, a, d, h1, h2, h3⟩
/-- A rule brings nothing. -/
def ShutM (a : AutoT) (xs : Mm) (r : Rl) (i j : Nat) : Prop := ∀ c, r.1 = [c] → ∀ v, Rt (SgA a (Vm xs)) (aE a.2.1.length) r.2 i j v → Vm xs c i j ≤ v
theorem leastM (h : SndA R a xs) (hc : ∀ r ∈ R, ∀ i j, i < a.2.1.length → j < a.2.1.length → ShutM a xs r i j) (c : UInt8) (hs : small c = false) (i j : Nat) : Lst FM (Cst R (aB a) (aE a.2.1.length) [c] i j) (Vm xs c i j) := by
  refine cst_least h.so h.le (fun c q i j v hs hq hv => ?_) c hs i j
  have hle := cstM_lt (rt_sound h.sg hs hq hv) (by simp)
  exact hc _ hq i j hle.1 hle.2 c rfl v hv
end
/-! lengths: impl -/
theorem mbig_not {c : UInt8} (hb : big c = true) : small c = false := by
  unfold big at hb
  unfold small
  simp only [Bool.and_eq_true, decide_eq_true_eq] at hb
  simp only [Bool.and_eq_false_imp, decide_eq_true_eq, decide_eq_false_iff_not]
  omega
def FineA (R : List Rl) : Prop := ∀ x ∈ R, (∃ c, x.1 = [c] ∧ big c = true) ∧ x.2.length ≤ 4 ∧ x.2.all sign = true
theorem fineA_of {g : GramT} (h : GramOkP g) : FineA g.2 := by
  intro x hx
  obtain ⟨j, hj, rfl⟩ := List.mem_iff_getElem.1 hx
  have := (h.2.2 j hj).1
  rw [List.getD_eq_getElem?_getD, List.getElem?_eq_getElem hj] at this
  have this : ruleOk g.2[j] = true := this
  unfold ruleOk at this
  simp only [Bool.and_eq_true, decide_eq_true_eq] at this
  obtain ⟨h1, h2, h3⟩ := this
  refine ⟨?_, h3, h2⟩
  match hx : g.2[j].1, h1 with
  | [c], h1 => exact ⟨c, rfl, h1⟩
theorem getD_setA {α : Type} (l : List α) (i j : Nat) (a d : α) (hi : i < l.length) : (l.set i a).getD j d = if j = i then a else l.getD j d := by
  rw [List.getD_eq_getElem?_getD, List.getD_eq_getElem?_getD, List.getElem?_set]
  by_cases h : i = j
  · subst h; simp [hi]
  · rw [if_neg h, if_neg (fun e => h e.symm)]
theorem repeatA_ev (v : Int) (n : Nat) (h1 : 1 ≤ n) (h2 : n ≤ 100000) : EvP (fun k => slices_Repeat_Sint_int k [v] (n : Int)) (fun r => r = List.replicate n v) :=
  EvP.fn (fun k => slices_Repeat_Sint_int_eq k _ _) (EvP.yes ⟨rfl, by omega, by omega⟩ (EvP.now (by rw [Int.toNat_natCast]; rfl)))
theorem minA_ite (a b : Nat) : ifE ((a : Int) < (b : Int)) (a : Int) (b : Int) = ((min b a : Nat) : Int) := by
  unfold ifE
  split <;> omega
theorem dropA1 (l : List UInt8) (i : Nat) (h : i < l.length) : List.drop i (List.take (i + 1) l) = [l.getD i 0] := by
  rw [List.drop_take, Nat.add_sub_cancel_left, drop_cons l i 0 h]; rfl
section
variable {a : AutoT} {xs : Mm}
theorem mof_ev (ha : OkA a) (hn : NnM xs) (c : UInt8) (hc : sign c = true) (p q : Nat) (hp : p < a.2.1.length) (hq : q < a.2.1.length) : EvP (fun k => impl_meeting_of k a.1 a.2.1 a.2.2 xs [c] (p : Int) (q : Int)) (fun r => r = (sga a (Vm xs) c p q : Int)) := by
  refine EvP.fn (fun k => impl_meeting_of_eq k _ _ _ _ _ _ _) (EvP.bind (implSignSmall_ev _) fun b hb => ?_)
  have hb : b = small c := hb
  subst hb
  unfold sga
  refine EvP.ite (fun hsm => EvP.yes (by omega) (EvP.yes (by show (0 : Int) < 1; omega) (EvP.bind (goes_ev ha (p := (p : Int)) (by omega) (by omega) hsm) fun x hx => ?_))) (fun hns => ?_)
  · subst hx
    rw [if_pos hsm]
    have e1 : [c].getD (Int.toNat 0) 0 = c := rfl
    rw [e1]
    refine EvP.dec (fun h => EvP.now ?_) (fun h => EvP.now ?_)
    · rw [if_pos h]; rfl
    · rw [if_neg h]; rfl
  · rw [if_neg hns]
    have e : (Vm xs c p q : Int) = mcm xs ([c], (p : Int), (q : Int)) := by
      unfold Vm
      have := hn ([c], (p : Int), (q : Int))
      omega
    rw [e]
    unfold mcm
    refine EvP.ite (fun h => EvP.now ?_) (fun h => EvP.now ?_)
    · rw [if_pos h]
    · rw [if_neg h]
def RowA (P : Nat → Nat → Prop) (L : Nat) (row : List Int) : Prop := row.length = L ∧ ∀ u, u < L → ∃ v : Nat, row.getD u 0 = (v : Int) ∧ Lst FM (P u) v
theorem RowA.of {P Q : Nat → Nat → Prop} {L : Nat} {row : List Int} (h : RowA P L row) (k : ∀ u v, u < L → Lst FM (P u) v → Lst FM (Q u) v) : RowA Q L row :=
  ⟨h.1, fun u hu => by obtain ⟨v, h1, h2⟩ := h.2 u hu; exact ⟨v, h1, k u v hu h2⟩⟩
theorem innerA {R : List Rl} (ha : OkA a) (hS : SndA R a xs) (hn : NnM xs) (q : List UInt8) (hq : q.length ≤ 1000) (t : Nat) (ht : t < q.length) (hc : sign (q.getD t 0) = true) (i : Nat) (kk : Nat) (hk : kk < a.2.1.length) (f : Nat) (hf : Lst FM (Sp (SgA a (Vm xs)) (q.take t) i kk) f)
    (a12 a13 : Int) (best : List Int) (a15 : Int) {P : List Int → Prop}
    (nx : ∀ next, RowA (fun u => MidM (SgA a (Vm xs)) (q.take t) (q.getD t 0) i (kk + 1) u) a.2.1.length next → EvP (fun k => impl_meeting_rule_L125338 k a.1 a.2.1 a.2.2 xs q (t : Int) next a12 a13 best a15 ((kk + 1 : Nat) : Int)) P) :
    ∀ (m u : Nat), u + m = a.2.1.length → ∀ next, RowA (fun w => MidM (SgA a (Vm xs)) (q.take t) (q.getD t 0) i (if w < u then kk + 1 else kk) w) a.2.1.length next → EvP (fun k => impl_meeting_rule_L64173262 k a.1 a.2.1 a.2.2 xs q (t : Int) next (kk : Int) (f : Int) a12 a13 best a15 (kk : Int) (a.2.1.length : Int) (u : Int)) P
  | 0, u, hu, next, hr => by
    have han := ha.n
    refine EvP.fn (fun k => impl_meeting_rule_L64173262_eq k _ _ _ _ _ _ _ _ _ _ _ _ _ _ _ _) (EvP.decN (by omega) ?_)
    rw [w64 (by omega) (by omega)]
    exact nx next (hr.of fun w v hw h => by rw [if_pos (by omega)] at h; exact h)
  | m + 1, u, hu, next, hr => by
    have han := ha.n
    have hl := hr.1
    obtain ⟨v, hv1, hv2⟩ := hr.2 u (by omega)
    have ew : IntKind.i64.wrap ((u : Int) + 1) = ((u + 1 : Nat) : Int) := w64 (by omega) (by omega)
    have et : IntKind.i64.wrap ((t : Int) + 1) = ((t + 1 : Nat) : Int) := w64 (by omega) (by omega)
    refine EvP.fn (fun k => impl_meeting_rule_L64173262_eq k _ _ _ _ _ _ _ _ _ _ _ _ _ _ _ _) (EvP.decY (by omega) (EvP.yes (by omega) (EvP.yes (by omega) (EvP.yes (by omega) ?_))))
    rw [ew, et]
    refine EvP.yes (by omega) (EvP.yes (by omega) ?_)
    rw [Int.toNat_natCast, Int.toNat_natCast, dropA1 q t ht]
    refine EvP.bind (mof_ev ha hn _ hc kk u hk (by omega)) fun x hx => ?_
    subst hx
    have hsg := sga_lst hS (q.getD t 0) kk u hk (by omega)
    have hle : _ ≤ 1152921504606846976 := hsg.le
    have hfl : f ≤ 1152921504606846976 := hf.le
    refine EvP.yes (by omega) (EvP.yes (by omega) ?_)
    rw [Int.toNat_natCast, hv1, w64 (by omega) (by omega), ← Int.natCast_add, minA_ite]
    refine innerA ha hS hn q hq t ht hc i kk hk f hf a12 a13 best a15 nx m (u + 1) (by omega) _ ⟨by rw [List.length_set]; exact hl, fun w hw => ?_⟩
    rw [getD_setA _ _ _ _ _ (by omega)]
    by_cases hwu : w = u
    · subst hwu
      rw [if_pos rfl]
      have hv2 : Lst FM (MidM (SgA a (Vm xs)) (q.take t) (q.getD t 0) i (if w < w then kk + 1 else kk) w) v := hv2
      rw [if_neg (by omega)] at hv2
      refine ⟨_, rfl, ?_⟩
      show Lst FM (MidM (SgA a (Vm xs)) (q.take t) (q.getD t 0) i (if w < w + 1 then kk + 1 else kk) w) _
      rw [if_pos (by omega)]
      exact (hv2.step hf hsg).congr fun y => midM_next.symm
    · rw [if_neg hwu]
      obtain ⟨v', h1, h2⟩ := hr.2 w hw
      refine ⟨v', h1, ?_⟩
      have h2 : Lst FM (MidM (SgA a (Vm xs)) (q.take t) (q.getD t 0) i (if w < u then kk + 1 else kk) w) v' := h2
      show Lst FM (MidM (SgA a (Vm xs)) (q.take t) (q.getD t 0) i (if w < u + 1 then kk + 1 else kk) w) v'
      by_cases hlt : w < u
      · rw [if_pos hlt] at h2; rw [if_pos (by omega)]; exact h2
      · rw [if_neg hlt] at h2; rw [if_neg (by omega)]; exact h2
theorem midsA {R : List Rl} (ha : OkA a) (hS : SndA R a xs) (hn : NnM xs) (q : List UInt8) (hq : q.length ≤ 1000) (t : Nat) (ht : t < q.length) (hc : sign (q.getD t 0) = true) (i : Nat) (best : List Int) (hb : RowA (fun u => Sp (SgA a (Vm xs)) (q.take t) i u) a.2.1.length best) {P : List Int → Prop}
    (nx : ∀ next, RowA (fun u => Sp (SgA a (Vm xs)) (q.take (t + 1)) i u) a.2.1.length next → EvP (fun k => impl_meeting_rule_L122 k a.1 a.2.1 a.2.2 xs q next (q.length : Int) ((t + 1 : Nat) : Int)) P) :
    ∀ (m kk : Nat), kk + m = a.2.1.length → ∀ next, RowA (fun w => MidM (SgA a (Vm xs)) (q.take t) (q.getD t 0) i kk w) a.2.1.length next → EvP (fun k => impl_meeting_rule_L125338 k a.1 a.2.1 a.2.2 xs q (t : Int) next (q.length : Int) (t : Int) best (best.length : Int) (kk : Int)) P
  | 0, kk, hk, next, hr => by
    refine EvP.fn (fun k => impl_meeting_rule_L125338_eq k _ _ _ _ _ _ _ _ _ _ _ _) (EvP.decN (by have := hb.1; omega) ?_)
    rw [w64 (by omega) (by omega)]
    have e : q.take (t + 1) = q.take t ++ [q.getD t 0] := by
      rw [List.take_add_one, List.getD_eq_getElem?_getD, List.getElem?_eq_getElem ht]; rfl
    have ek : kk = a.2.1.length := by omega
    exact nx next (hr.of fun w v hw h => by
      rw [e]
      have h : Lst FM (MidM (SgA a (Vm xs)) (q.take t) (q.getD t 0) i kk w) v := h
      rw [ek] at h
      exact h.congr fun y => midM_all hS)
  | m + 1, kk, hk, next, hr => by
    have han := ha.n
    have hl := hb.1
    have hnl := hr.1
    obtain ⟨f, hf1, hf2⟩ := hb.2 kk (by omega)
    have ek : IntKind.i64.wrap ((kk : Int) + 1) = ((kk + 1 : Nat) : Int) := w64 (by omega) (by omega)
    refine EvP.fn (fun k => impl_meeting_rule_L125338_eq k _ _ _ _ _ _ _ _ _ _ _ _) (EvP.decY (by omega) (EvP.yes (by omega) (EvP.yes (by omega) ?_)))
    rw [Int.toNat_natCast, hf1, ek, hnl]
    refine EvP.dec (fun h => ?_) (fun h => ?_)
    · have hF : f = FM := by show f = 1152921504606846976; omega
      subst hF
      refine midsA ha hS hn q hq t ht hc i best hb nx m (kk + 1) (by omega) next (hr.of fun w v hw h => ?_)
      exact (h.skip (Q := Sp (SgA a (Vm xs)) (q.take t) i kk) (S := SgA a (Vm xs) (q.getD t 0) kk w) (fun a b ha _ => by have := hf2.all a ha; omega)).congr fun y => midM_next.symm
    · refine innerA ha hS hn q hq t ht hc i kk (by omega) f hf2 _ _ best _ (fun next' hn' => midsA ha hS hn q hq t ht hc i best hb nx m (kk + 1) (by omega) next' hn') a.2.1.length 0 (Nat.zero_add _) next (hr.of fun w v hw h => ?_)
      rw [if_neg (by omega)]; exact h
theorem ruleA {R : List Rl} (ha : OkA a) (hS : SndA R a xs) (hn : NnM xs) (q : List UInt8) (hq : q.length ≤ 1000) (hsg : q.all sign = true) (i : Nat) (hi : i < a.2.1.length) :
    EvP (fun k => impl_meeting_rule k a.1 a.2.1 a.2.2 xs q (i : Int)) (RowA (fun u => Rt (SgA a (Vm xs)) (aE a.2.1.length) q i u) a.2.1.length) := by
  have han := ha.n
  have signs : ∀ (m t : Nat), t + m = q.length → ∀ best, RowA (fun u => Sp (SgA a (Vm xs)) (q.take t) i u) a.2.1.length best → EvP (fun k => impl_meeting_rule_L122 k a.1 a.2.1 a.2.2 xs q best (q.length : Int) (t : Int)) (RowA (fun u => Rt (SgA a (Vm xs)) (aE a.2.1.length) q i u) a.2.1.length) := by
    intro m
    induction m with
    | zero =>
      intro t ht best hb
      obtain rfl : t = q.length := by omega
      rw [List.take_length] at hb
      refine EvP.fn (fun k => impl_meeting_rule_L122_eq k _ _ _ _ _ _ _ _) (EvP.decN (by omega) (EvP.now (hb.of fun u v hu h => ?_)))
      cases q with
      | nil => exact h.congr fun y => ⟨fun hy => ⟨hy.1, hi, hy.2⟩, fun hy => ⟨hy.1, hy.2.2⟩⟩
      | cons c q => exact h
    | succ m ih =>
      intro t ht best hb
      refine EvP.fn (fun k => impl_meeting_rule_L122_eq k _ _ _ _ _ _ _ _) (EvP.decY (by omega) ?_)
      refine EvP.bind (repeatA_ev _ _ (by omega) (by omega)) fun x hx => ?_
      subst hx
      refine midsA ha hS hn q hq t (by omega) (List.all_eq_true.1 hsg _ (getD_mem q t 0 (by omega))) i best hb (fun next hn' => ih (t + 1) (by omega) next hn') a.2.1.length 0 (Nat.zero_add _) _ ⟨List.length_replicate, fun u hu => ⟨FM, ?_, Lst.none fun y hy => by obtain ⟨m, hm, _⟩ := hy; exact absurd hm (Nat.not_lt_zero _)⟩⟩
      rw [List.getD_eq_getElem?_getD, List.getElem?_replicate, if_pos hu]; rfl
  refine EvP.fn (fun k => impl_meeting_rule_eq k _ _ _ _ _ _) ?_
  refine EvP.bind (repeatA_ev _ _ (by omega) (by omega)) fun x hx => ?_
  subst hx
  refine EvP.yes (by omega) (EvP.yes (by rw [List.length_replicate]; omega) (signs q.length 0 (Nat.zero_add _) _ ⟨by rw [List.length_set]; exact List.length_replicate, fun u hu => ?_⟩))
  rw [Int.toNat_natCast, getD_setA _ _ _ _ _ (by rw [List.length_replicate]; omega)]
  by_cases h0 : u = i
  · subst h0
    exact ⟨0, by rw [if_pos rfl]; rfl, Lst.one (Nat.zero_le _) ⟨rfl, rfl⟩ fun y hy => hy.2⟩
  · refine ⟨FM, ?_, Lst.none fun y hy => h0 hy.1.symm⟩
    rw [if_neg h0, List.getD_eq_getElem?_getD, List.getElem?_replicate, if_pos hu]; rfl
end
abbrev GwA (R : List Rl) (a : AutoT) := GwC Vm R (aB a) (aE a.2.1.length) FM a.2.1.length
abbrev MA := Int × List Bool × List (List Int) × Mm
section
variable {g : GramT} {a : AutoT} {xs0 : Mm}
theorem tosA (ha : OkA a) (hg : g.2.length ≤ 1000) {ri : Nat} (hri : ri < g.2.length) {c : UInt8} (hb : big c = true) (q : List UInt8) (hm : ([c], q) ∈ g.2) {f : Nat} (hf : f < a.2.1.length) (xc : Mm) (hxc : SndA g.2 a xc) (row : List Int) (hrow : RowA (fun u => Rt (SgA a (Vm xc)) (aE a.2.1.length) q f u) a.2.1.length row) (D : Prop) {P : MA → Prop}
    (nx : ∀ xs ch, GwA g.2 a false xs0 ch xs → NnM xs → (ch = false → D ∧ (xc = xs0 → ∀ u, u < a.2.1.length → ShutM a xs0 ([c], q) f u)) → EvP (fun k => impl_meetingOf_L956006 k g a (a.1, a.2.1, a.2.2, xs) ch ([c], q) g.2 (g.2.length : Int) (ri : Int) (a.2.1.length : Int) ((f + 1 : Nat) : Int)) P) :
    ∀ (n u : Nat), u + n = a.2.1.length → ∀ xs ch, GwA g.2 a false xs0 ch xs → NnM xs → (ch = false → D ∧ (xc = xs0 → ∀ w, w < u → ShutM a xs0 ([c], q) f w)) → EvP (fun k => impl_meetingOf_L244737638 k g a (a.1, a.2.1, a.2.2, xs) ch ([c], q) (f : Int) g.2 (g.2.length : Int) (ri : Int) (a.2.1.length : Int) (f : Int) row (row.length : Int) (u : Int)) P
  | 0, u, h, xs, ch, hw, hn, hd => by
    have han := ha.n
    have hl := hrow.1
    refine EvP.fn (fun k => impl_meetingOf_L244737638_eq k _ _ _ _ _ _ _ _ _ _ _ _ _ _) (EvP.decN (by omega) ?_)
    rw [w64 (by omega) (by omega)]
    exact nx xs ch hw hn fun hch => ⟨(hd hch).1, fun e w hw' => (hd hch).2 e w (by omega)⟩
  | n + 1, u, h, xs, ch, hw, hn, hd => by
    have han := ha.n
    have hl := hrow.1
    have hns := mbig_not hb
    obtain ⟨v, hv1, hv2⟩ := hrow.2 u (by omega)
    have ew : IntKind.i64.wrap ((u : Int) + 1) = ((u + 1 : Nat) : Int) := w64 (by omega) (by omega)
    refine EvP.fn (fun k => impl_meetingOf_L244737638_eq k _ _ _ _ _ _ _ _ _ _ _ _ _ _) (EvP.decY (by omega) (EvP.yes (by omega) (EvP.yes (by omega) ?_)))
    rw [Int.toNat_natCast, ew, hv1]
    refine EvP.bind (mof_ev ha hn c (by unfold sign; rw [hb]; rfl) f u hf (by omega)) fun x hx => ?_
    have e2 : sga a (Vm xs) c f u = Vm xs c f u := by unfold sga; rw [if_neg (by simp [hns])]
    rw [e2] at hx
    subst hx
    refine EvP.dec (fun hlt => ?_) (fun hno => ?_)
    · have hlt : v < Vm xs c f u := by omega
      have hF := hw.snd.le c f u
      have hw2 : GwA g.2 a ch xs true (mput PT JT xs ([c], (f : Int), (u : Int)) (v : Int)) :=
        GwC.put hw.snd hb (by omega) (by omega) (rt_sound hxc.sg hns hm (hv2.so (by omega))) hlt (vm_put xs c f u v)
      exact tosA ha hg hri hb q hm hf xc hxc row hrow D nx n (u + 1) (by omega) _ true (hw.trans hw2) (fun z => by
        rw [mcm_put]; split
        · omega
        · exact hn z) (fun h => by cases h)
    · refine tosA ha hg hri hb q hm hf xc hxc row hrow D nx n (u + 1) (by omega) xs ch hw hn fun hch => ⟨(hd hch).1, fun hxe w hw' => ?_⟩
      rcases Nat.lt_or_ge w u with h' | h'
      · exact (hd hch).2 hxe w h'
      · obtain rfl : w = u := by omega
        rw [hw.same hch] at hno
        rw [hxe] at hv2
        intro d hd' v' hv'
        have : d = c := (List.cons.inj hd').1.symm
        subst this
        have := hv2.all v' hv'
        omega
theorem fromsA (ha : OkA a) (hR : FineA g.2) (hg : g.2.length ≤ 1000) {ri : Nat} (hri : ri < g.2.length) {c : UInt8} (hc : (g.2.getD ri ([], [])).1 = [c]) (hb : big c = true) (D : Prop) {P : MA → Prop}
    (nx : ∀ xs ch, GwA g.2 a false xs0 ch xs → NnM xs → (ch = false → D ∧ ∀ f u, f < a.2.1.length → u < a.2.1.length → ShutM a xs0 (g.2.getD ri ([], [])) f u) → EvP (fun k => impl_meetingOf_L3734 k g a (a.1, a.2.1, a.2.2, xs) ch g.2 (g.2.length : Int) ((ri + 1 : Nat) : Int)) P) :
    ∀ (n f : Nat), f + n = a.2.1.length → ∀ xs ch, GwA g.2 a false xs0 ch xs → NnM xs → (ch = false → D ∧ ∀ f' u, f' < f → u < a.2.1.length → ShutM a xs0 (g.2.getD ri ([], [])) f' u) → EvP (fun k => impl_meetingOf_L956006 k g a (a.1, a.2.1, a.2.2, xs) ch ([c], (g.2.getD ri ([], [])).2) g.2 (g.2.length : Int) (ri : Int) (a.2.1.length : Int) (f : Int)) P
  | 0, f, h, xs, ch, hw, hn, hd => by
    refine EvP.fn (fun k => impl_meetingOf_L956006_eq k _ _ _ _ _ _ _ _ _ _) (EvP.decN (by omega) ?_)
    rw [w64 (by omega) (by omega)]
    exact nx xs ch hw hn fun hch => ⟨(hd hch).1, fun f' u h1 h2 => (hd hch).2 f' u (by omega) h2⟩
  | n + 1, f, h, xs, ch, hw, hn, hd => by
    have han := ha.n
    have hmem := getD_mem g.2 ri ([], []) hri
    obtain ⟨_, hl4, hsg⟩ := hR _ hmem
    have er : g.2.getD ri ([], []) = ([c], (g.2.getD ri ([], [])).2) := Prod.ext hc rfl
    refine EvP.fn (fun k => impl_meetingOf_L956006_eq k _ _ _ _ _ _ _ _ _ _) (EvP.decY (by omega) ?_)
    refine EvP.bind (ruleA ha hw.snd hn _ (by omega) hsg f (by omega)) fun row hrow => ?_
    refine tosA ha hg hri hb (g.2.getD ri ([], [])).2 (by rw [← er]; exact hmem) (by omega) xs hw.snd row hrow ((D ∧ ∀ f' u, f' < f → u < a.2.1.length → ShutM a xs0 (g.2.getD ri ([], [])) f' u) ∧ xs = xs0) (fun xs' ch' hw' hn' hd' => fromsA ha hR hg hri hc hb D nx n (f + 1) (by omega) xs' ch' hw' hn' fun hch => ⟨(hd' hch).1.1.1, fun f' u h1 h2 => ?_⟩) a.2.1.length 0 (Nat.zero_add _) xs ch hw hn (fun hch => ⟨⟨hd hch, hw.same hch⟩, fun _ w hw' => absurd hw' (Nat.not_lt_zero _)⟩)
    rcases Nat.lt_or_ge f' f with h' | h'
    · exact (hd' hch).1.1.2 f' u h' h2
    · obtain rfl : f' = f := by omega
      rw [er]
      exact (hd' hch).2 (hd' hch).1.2 u h2
theorem rulesA (ha : OkA a) (hR : FineA g.2) (hg : g.2.length ≤ 1000) {P : MA → Prop}
    (nx : ∀ xs ch, GwA g.2 a false xs0 ch xs → NnM xs → (ch = false → ∀ r ∈ g.2, ∀ f u, f < a.2.1.length → u < a.2.1.length → ShutM a xs0 r f u) → EvP (fun k => impl_meetingOf_L58 k g a (a.1, a.2.1, a.2.2, xs) ch) P) :
    ∀ (n i : Nat), i + n = g.2.length → ∀ xs ch, GwA g.2 a false xs0 ch xs → NnM xs → (ch = false → ∀ r ∈ g.2.take i, ∀ f u, f < a.2.1.length → u < a.2.1.length → ShutM a xs0 r f u) → EvP (fun k => impl_meetingOf_L3734 k g a (a.1, a.2.1, a.2.2, xs) ch g.2 (g.2.length : Int) (i : Int)) P
  | 0, i, h, xs, ch, hw, hn, hd => by
    rw [List.take_of_length_le (by omega)] at hd
    exact EvP.fn (fun k => impl_meetingOf_L3734_eq k _ _ _ _ _ _ _) (EvP.decN (by omega) (nx xs ch hw hn hd))
  | n + 1, i, h, xs, ch, hw, hn, hd => by
    have hi : i < g.2.length := by omega
    obtain ⟨⟨c, hc, hb⟩, _, _⟩ := hR _ (getD_mem g.2 i ([], []) hi)
    have e : g.2.take (i + 1) = g.2.take i ++ [g.2.getD i ([], [])] := by
      rw [List.take_add_one, List.getD_eq_getElem?_getD, List.getElem?_eq_getElem hi]; rfl
    refine EvP.fn (fun k => impl_meetingOf_L3734_eq k _ _ _ _ _ _ _) (EvP.decY (by omega) (EvP.yes (by omega) (EvP.yes (by omega) ?_)))
    rw [Int.toNat_natCast, hc]
    refine fromsA ha hR hg hi hc hb (∀ r ∈ g.2.take i, ∀ f u, f < a.2.1.length → u < a.2.1.length → ShutM a xs0 r f u) (fun xs' ch' hw' hn' hd' => rulesA ha hR hg nx n (i + 1) (by omega) xs' ch' hw' hn' fun hch r hr f u h1 h2 => ?_) a.2.1.length 0 (Nat.zero_add _) xs ch hw hn (fun hch => ⟨hd hch, fun f' u h1 => absurd h1 (Nat.not_lt_zero _)⟩)
    rw [e] at hr
    rcases List.mem_append.1 hr with hr | hr
    · exact (hd' hch).1 r hr f u h1 h2
    · rw [List.mem_singleton.1 hr]
      exact (hd' hch).2 f u h1 h2
def ChartA (g : GramT) (a : AutoT) (r : MA) : Prop := ∃ xs, r = (a.1, a.2.1, a.2.2, xs) ∧ NnM xs ∧ ∀ c, small c = false → ∀ i j, Lst FM (Cst g.2 (aB a) (aE a.2.1.length) [c] i j) (Vm xs c i j)
theorem whileA (ha : OkA a) (hR : FineA g.2) (hg : g.2.length ≤ 1000) : ∀ (n : Nat) (xs : Mm), SndA g.2 a xs → NnM xs → totC Vm a.2.1.length xs < n → EvP (fun k => impl_meetingOf_L58 k g a (a.1, a.2.1, a.2.2, xs) true) (ChartA g a) := by
  intro n
  induction n with
  | zero => intro xs _ _ h; exact absurd h (Nat.not_lt_zero _)
  | succ n ih =>
    intro xs hsn hn0 hn
    refine EvP.fn (fun k => impl_meetingOf_L58_eq k _ _ _ _) (EvP.yes rfl ?_)
    refine rulesA (xs0 := xs) (P := ChartA g a) ha hR hg (fun xs' ch' hw hn' hd => ?_) g.2.length 0 (Nat.zero_add _) xs false (GwC.refl hsn) hn0 (fun _ r hr => by cases hr)
    cases ch' with
    | true =>
      rcases hw.less rfl with h | h
      · cases h
      · exact ih xs' hw.snd hn' (by omega)
    | false =>
      rw [hw.same rfl]
      exact EvP.fn (fun k => impl_meetingOf_L58_eq k _ _ _ _) (EvP.no (by simp) (EvP.now ⟨xs, rfl, hn0, fun c hc i j => leastM hsn (fun r hr i j hi hj => hd rfl r hr i j hi hj) c hc i j⟩))
theorem meetingOf_ev (ha : OkA a) (hR : FineA g.2) (hg : g.2.length ≤ 1000) : EvP (fun k => impl_meetingOf k g.1 g.2 a.1 a.2.1 a.2.2) (ChartA g a) := by
  have v0 : ∀ c i j, Vm [] c i j = FM := fun c i j => rfl
  exact EvP.fn (fun k => impl_meetingOf_eq k _ _ _ _ _) (whileA ha hR hg _ [] ⟨fun c i j _ h => by rw [v0] at h; exact absurd h (Nat.lt_irrefl _), fun c i j => by rw [v0]; exact Nat.le_refl _⟩ (fun z => by show (0 : Int) ≤ 1152921504606846976; omega) (Nat.lt_succ_self _))
end
/-- What a walk lets by, so long. -/
def Meets (g : GramT) (a : AutoT) (v : Nat) : Prop := ∃ to : Nat, to < a.2.1.length ∧ endR a (to : Int) = true ∧ Cst g.2 (aB a) (aE a.2.1.length) g.1 a.1.toNat to v
theorem meetLeast_ev (g : GramT) (a : AutoT) (hm : Mid a) : EvP (fun k => impl_MeetLeast k g.1 g.2 a.1 a.2.1 a.2.2) (fun r => (GramOkP g ∧ autoOk a = true → ∃ v : Nat, Lst FM (Meets g a) v ∧ r = if v < FM then ((v : Int), true) else (0, false)) ∧ (¬ (GramOkP g ∧ autoOk a = true) → r = (0, false))) := by
  refine EvP.fn (fun k => impl_MeetLeast_eq k _ _ _ _ _) (EvP.bind (implGramOk_ev g) fun b hb => ?_)
  cases b with
  | false => exact EvP.no (by simp) (EvP.now ⟨fun h => (by have := hb.2 h.1; cases this), fun _ => rfl⟩)
  | true =>
    have hok := hb.1 rfl
    refine EvP.yes rfl (EvP.bind (implAutoOk_ev a hm) fun d hd => ?_)
    subst hd
    cases h1 : autoOk a with
    | false => exact EvP.yes rfl (EvP.now ⟨fun h => (by cases h.2), fun _ => rfl⟩)
    | true =>
      have ha := okA h1
      have han := ha.n
      have hb0 := ha.b0
      have hb1 := ha.b1
      obtain ⟨c, hc, hbig⟩ : ∃ c, g.1 = [c] ∧ big c = true := by
        have := hok.1
        match h1 : g.1, this with
        | [c], this => exact ⟨c, rfl, this⟩
      refine EvP.no (by simp) (EvP.bind (meetingOf_ev ha (fineA_of hok) (by have := hok.2.1; omega)) fun x hx => ?_)
      obtain ⟨xs, rfl, hn, hLst⟩ := hx
      have eb : ((a.1.toNat : Nat) : Int) = a.1 := by omega
      have loop : ∀ (q i : Nat), i + q = a.2.1.length → ∀ v : Nat, Lst FM (fun y => ∃ to : Nat, to < i ∧ endR a (to : Int) = true ∧ Cst g.2 (aB a) (aE a.2.1.length) [c] a.1.toNat to y) v → EvP (fun k => impl_MeetLeast_L250 k g a (a.1, a.2.1, a.2.2, xs) (v : Int) a.2.1 (a.2.1.length : Int) (i : Int)) (fun r => ∃ v : Nat, Lst FM (Meets g a) v ∧ r = if v < FM then ((v : Int), true) else (0, false)) := by
        intro q
        induction q with
        | zero =>
          intro i hi v hv
          obtain rfl : i = a.2.1.length := by omega
          have hle : v ≤ 1152921504606846976 := hv.le
          refine EvP.fn (fun k => impl_MeetLeast_L250_eq k _ _ _ _ _ _ _) (EvP.decN (by omega) (EvP.dec (fun h => EvP.now ⟨v, ?_, ?_⟩) (fun h => EvP.now ⟨v, ?_, ?_⟩)))
          · unfold Meets; rw [hc]; exact hv
          · rw [if_neg (by show ¬ v < 1152921504606846976; omega)]
          · unfold Meets; rw [hc]; exact hv
          · rw [if_pos (by show v < 1152921504606846976; omega)]
        | succ q ih =>
          intro i hi v hv
          refine EvP.fn (fun k => impl_MeetLeast_L250_eq k _ _ _ _ _ _ _) (EvP.decY (by omega) (EvP.yes (by omega) (EvP.yes (by omega) ?_)))
          rw [Int.toNat_natCast, w64 (by omega) (by omega)]
          have ee : endR a (i : Int) = a.2.1.getD i false := by unfold endR; rw [Int.toNat_natCast]
          refine EvP.ite (fun h => ?_) (fun h => ?_)
          · have hof := mof_ev ha hn c (by unfold sign; rw [hbig]; rfl) a.1.toNat i (by omega) (by omega)
            rw [eb, ← hc] at hof
            refine EvP.bind hof fun y hy => ?_
            have e2 : sga a (Vm xs) c a.1.toNat i = Vm xs c a.1.toNat i := by unfold sga; rw [if_neg (by simp [mbig_not hbig])]
            rw [e2] at hy
            subst hy
            rw [minA_ite]
            have hL := hLst c (mbig_not hbig) a.1.toNat i
            have := ih (i + 1) (by omega) (min v (Vm xs c a.1.toNat i)) (by
              refine ⟨fun hlt => ?_, by have := hv.le; omega, fun y hy => ?_⟩
              · rcases Nat.le_total v (Vm xs c a.1.toNat i) with hh | hh
                · rw [Nat.min_eq_left hh] at hlt ⊢
                  obtain ⟨to, t1, t2, t3⟩ := hv.so hlt
                  exact ⟨to, by omega, t2, t3⟩
                · rw [Nat.min_eq_right hh] at hlt ⊢
                  exact ⟨i, by omega, by rw [ee]; exact h, hL.so hlt⟩
              · obtain ⟨to, t1, t2, t3⟩ := hy
                rcases Nat.lt_or_ge to i with hh | hh
                · have := hv.all y ⟨to, hh, t2, t3⟩; omega
                · obtain rfl : to = i := by omega
                  have := hL.all y t3; omega)
            exact this
          · refine ih (i + 1) (by omega) v ⟨fun hlt => ?_, hv.le, fun y hy => ?_⟩
            · obtain ⟨to, t1, t2, t3⟩ := hv.so hlt
              exact ⟨to, by omega, t2, t3⟩
            · obtain ⟨to, t1, t2, t3⟩ := hy
              rcases Nat.lt_or_ge to i with hh | hh
              · exact hv.all y ⟨to, hh, t2, t3⟩
              · obtain rfl : to = i := by omega
                rw [ee] at t2; exact absurd t2 h
      exact (loop a.2.1.length 0 (Nat.zero_add _) FM (Lst.none fun y hy => by obtain ⟨to, h, _⟩ := hy; exact absurd h (Nat.not_lt_zero _))).mono fun r hr => ⟨fun _ => hr, fun h => absurd ⟨hok, rfl⟩ h⟩
/-! the walk of a text -/
def rowO (s : List UInt8) (i : Nat) : List Int := if i < s.length then (List.replicate 4 (-1)).set ((s.getD i 0).toNat - 97) ((i + 1 : Nat) : Int) else List.replicate 4 (-1)
def endsO (s : List UInt8) (i : Nat) : List Bool := (List.range i).map fun j => decide (j = s.length)
def goesO (s : List UInt8) (i : Nat) : List (List Int) := (List.range i).map (rowO s)
def outO (s : List UInt8) : AutoT := (0, endsO s (s.length + 1), goesO s (s.length + 1))
def ofA (s : List UInt8) : AutoT × Bool := if textOk s = true ∧ s.length < 6 then (outO s, true) else ((0, [], []), false)
theorem range_map {α : Type} (f : Nat → α) (i : Nat) : (List.range (i + 1)).map f = (List.range i).map f ++ [f i] := by rw [List.range_succ, List.map_append]; rfl
theorem range_getD {α : Type} (f : Nat → α) (n i : Nat) (d : α) (h : i < n) : ((List.range n).map f).getD i d = f i := by
  rw [List.getD_eq_getElem?_getD, List.getElem?_map, List.getElem?_range h]; rfl
theorem endsO_imp (s : List UInt8) : (List.replicate (s.length + 1) false).set s.length true = endsO s (s.length + 1) := by
  unfold endsO
  apply List.ext_getElem
  · simp
  · intro i h1 h2
    rw [List.getElem_set, List.getElem_replicate, List.getElem_map, List.getElem_range]
    by_cases h : s.length = i
    · rw [if_pos h, decide_eq_true h.symm]
    · rw [if_neg h, decide_eq_false (fun e => h e.symm)]
theorem repeatO_ev (v : Int) (n : Nat) (h1 : 1 ≤ n) (h2 : n ≤ 100000) : EvP (fun k => slices_Repeat_Sint_int k [v] (n : Int)) (fun r => r = List.replicate n v) :=
  EvP.fn (fun k => slices_Repeat_Sint_int_eq k _ _) (EvP.yes ⟨rfl, by omega, by omega⟩ (EvP.now (by rw [Int.toNat_natCast]; rfl)))
theorem implOf_ev (s : List UInt8) : EvP (fun k => impl_AutoOf k s) (fun r => r = ofA s) := by
  refine EvP.fn (fun k => impl_AutoOf_eq k _) (EvP.bind (implTextOk_ev s) fun b hb => ?_)
  subst hb
  cases ht : textOk s with
  | false => exact EvP.no (by simp) (EvP.now (by unfold ofA; rw [if_neg (by simp [ht])]))
  | true =>
    refine EvP.yes rfl (EvP.dec (fun h => EvP.now (by unfold ofA; rw [if_neg (by omega)])) (fun h => ?_))
    have h6 : s.length < 6 := by omega
    have ho : ofA s = (outO s, true) := by unfold ofA; rw [if_pos ⟨ht, h6⟩]
    have hsm : s.all small = true := by
      simp only [textOk, Bool.and_eq_true] at ht; exact ht.1
    have e1 : IntKind.i64.wrap ((s.length : Int) + 1) = ((s.length + 1 : Nat) : Int) := w64 (by omega) (by omega)
    rw [ho, e1]
    have loop : ∀ (q i : Nat), i + q = s.length → EvP (fun k => impl_AutoOf_L122 k s ((0 : Int), [], []) ((0 : Int), List.replicate (s.length + 1) false, goesO s i) ((s.length + 1 : Nat) : Int) (i : Int)) (fun r => r = (outO s, true)) := by
      intro q
      induction q with
      | zero =>
        intro i hi
        obtain rfl : i = s.length := by omega
        refine EvP.fn (fun k => impl_AutoOf_L122_eq k _ _ _ _ _) (EvP.decY (by omega) (EvP.bind (repeatO_ev _ 4 (by omega) (by omega)) fun x hx => EvP.decN (by omega) (EvP.yes (by omega) (EvP.yes (by show _ < (((List.replicate (s.length + 1) false).length : Nat) : Int); rw [List.length_replicate]; omega) ?_))))
        subst hx
        rw [Int.toNat_natCast]
        dsimp only
        rw [endsO_imp]
        refine EvP.fn (fun k => impl_AutoOf_L31335_eq k _ _ _ _ _ _) (EvP.yes (mE (by unfold goesO; rw [List.length_map, List.length_range]; show _ + 1 ≤ _; omega)) ?_)
        rw [e1]
        refine EvP.fn (fun k => impl_AutoOf_L122_eq k _ _ _ _ _) (EvP.decN (by omega) (EvP.now ?_))
        have : goesO s (s.length + 1) = goesO s s.length ++ [List.replicate 4 (-1)] := by
          unfold goesO
          rw [range_map]
          congr 2
          unfold rowO
          rw [if_neg (Nat.lt_irrefl _)]
        unfold outO
        rw [this]
      | succ q ih =>
        intro i hi
        have hc := List.all_eq_true.1 hsm _ (getD_mem s i 0 (by omega))
        simp only [small, Bool.and_eq_true, decide_eq_true_eq] at hc
        have e2 : IntKind.u8.wrap (((s.getD i 0).toNat : Int) - 97) = (((s.getD i 0).toNat - 97 : Nat) : Int) := by rw [w8 (by omega) (by omega)]; omega
        refine EvP.fn (fun k => impl_AutoOf_L122_eq k _ _ _ _ _) (EvP.decY (by omega) (EvP.bind (repeatO_ev _ 4 (by omega) (by omega)) fun x hx => EvP.decY (by omega) (EvP.yes (by omega) (EvP.yes (by omega) ?_))))
        subst hx
        rw [Int.toNat_natCast, e2, Int.toNat_natCast, w64 (by omega) (by omega)]
        refine EvP.yes (by omega) (EvP.yes (by rw [List.length_replicate]; omega) ?_)
        refine EvP.fn (fun k => impl_AutoOf_L31335_eq k _ _ _ _ _ _) (EvP.yes (mE (by show (goesO s i).length + 1 ≤ _; unfold goesO; rw [List.length_map, List.length_range]; omega)) ?_)
        rw [w64 (by omega) (by omega)]
        have h' := ih (i + 1) (by omega)
        have : goesO s (i + 1) = goesO s i ++ [(List.replicate 4 (-1)).set ((s.getD i 0).toNat - 97) ((i : Int) + 1)] := by
          unfold goesO
          rw [range_map]
          congr 2
          unfold rowO
          rw [if_pos (by omega)]; rfl
        rw [this] at h'
        exact h'
    refine EvP.yes rfl (EvP.yes (by omega) (EvP.yes (by unfold maxLenE; omega) ?_))
    rw [Int.toNat_natCast]
    exact loop s.length 0 (Nat.zero_add _)
theorem specOf_ev (s : List UInt8) (hl : s.length ≤ 1000000) : EvP (fun k => spec_AutoOf k s) (fun r => r = ofA s) := by
  refine EvP.fn (fun k => spec_AutoOf_eq k _) (EvP.bind (specTextOk_ev s (by omega)) fun b hb => ?_)
  subst hb
  cases ht : textOk s with
  | false => exact EvP.no (by simp) (EvP.now (by unfold ofA; rw [if_neg (by simp [ht])]))
  | true =>
    refine EvP.yes rfl (EvP.dec (fun h => EvP.now (by unfold ofA; rw [if_neg (by omega)])) (fun h => ?_))
    have h6 : s.length < 6 := by omega
    have ho : ofA s = (outO s, true) := by unfold ofA; rw [if_pos ⟨ht, h6⟩]
    have hsm : s.all small = true := by
      simp only [textOk, Bool.and_eq_true] at ht; exact ht.1
    rw [ho]
    have loop : ∀ (q i : Nat), i + q = s.length + 1 → EvP (fun k => spec_AutoOf_L122 k s ((0 : Int), [], []) ((0 : Int), endsO s i, goesO s i) (i : Int)) (fun r => r = (outO s, true)) := by
      intro q
      induction q with
      | zero =>
        intro i hi
        obtain rfl : i = s.length + 1 := by omega
        exact EvP.fn (fun k => spec_AutoOf_L122_eq k _ _ _ _) (EvP.decN (by omega) (EvP.now rfl))
      | succ q ih =>
        intro i hi
        have fin : EvP (fun k => spec_AutoOf_L7827 k s ((0 : Int), [], []) ((0 : Int), endsO s i, goesO s i) (i : Int) (rowO s i)) (fun r => r = (outO s, true)) := by
          refine EvP.fn (fun k => spec_AutoOf_L7827_eq k _ _ _ _ _) (EvP.yes (mE (by show (endsO s i).length + 1 ≤ _; unfold endsO; rw [List.length_map, List.length_range]; omega)) (EvP.yes (mE (by show (goesO s i).length + 1 ≤ _; unfold goesO; rw [List.length_map, List.length_range]; omega)) ?_))
          rw [w64 (by omega) (by omega)]
          have h' := ih (i + 1) (by omega)
          have a1 : endsO s (i + 1) = endsO s i ++ [decide ((i : Int) = (s.length : Int))] := by
            unfold endsO
            rw [range_map]
            congr 2
            rw [decide_eq_decide]; omega
          have a2 : goesO s (i + 1) = goesO s i ++ [rowO s i] := by unfold goesO; rw [range_map]
          rw [a1, a2] at h'
          exact h'
        refine EvP.fn (fun k => spec_AutoOf_L122_eq k _ _ _ _) (EvP.decY (by omega) (EvP.dec (fun hlt => ?_) (fun hge => ?_)))
        · have hc := List.all_eq_true.1 hsm _ (getD_mem s i 0 (by omega))
          simp only [small, Bool.and_eq_true, decide_eq_true_eq] at hc
          have e2 : IntKind.i64.wrap (IntKind.u8.wrap (((s.getD i 0).toNat : Int) - 97)) = (((s.getD i 0).toNat - 97 : Nat) : Int) := by rw [w8 (by omega) (by omega), w64 (by omega) (by omega)]; omega
          refine EvP.yes (by omega) (EvP.yes (by omega) ?_)
          rw [Int.toNat_natCast, e2, Int.toNat_natCast, w64 (by omega) (by omega)]
          refine EvP.yes (by omega) (EvP.yes (by show _ < (4 : Int); omega) ?_)
          have : rowO s i = [(-1 : Int), -1, -1, -1].set ((s.getD i 0).toNat - 97) ((i : Int) + 1) := by
            unfold rowO
            rw [if_pos (by omega)]; rfl
          rw [this] at fin
          exact fin
        · have : rowO s i = [(-1 : Int), -1, -1, -1] := by
            unfold rowO
            rw [if_neg (by omega)]; rfl
          rw [this] at fin
          exact fin
    exact loop (s.length + 1) 0 (Nat.zero_add _)
theorem rowO_len (s : List UInt8) (i : Nat) : (rowO s i).length = 4 := by unfold rowO; split <;> simp
theorem outO_ok {s : List UInt8} (h6 : s.length < 6) : autoOk (outO s) = true := by
  have e1 : (outO s).2.1.length = s.length + 1 := by show (endsO s _).length = _; unfold endsO; rw [List.length_map, List.length_range]
  have e2 : (outO s).2.2.length = s.length + 1 := by show (goesO s _).length = _; unfold goesO; rw [List.length_map, List.length_range]
  simp only [autoOk, Bool.and_eq_true, decide_eq_true_eq, List.all_eq_true]
  refine ⟨⟨⟨⟨⟨by omega, by omega⟩, by omega⟩, Int.le_refl _⟩, by show (0 : Int) < _; omega⟩, fun r hr => ?_⟩
  obtain ⟨i, hi, rfl⟩ := List.mem_map.1 hr
  have hi := List.mem_range.1 hi
  simp only [rowOk, Bool.and_eq_true, decide_eq_true_eq, List.all_eq_true]
  refine ⟨rowO_len s i, fun x hx => ?_⟩
  simp only [goalB, Bool.and_eq_true, decide_eq_true_eq]
  rw [e1]
  unfold rowO at hx
  split at hx
  · rcases set_mem hx with rfl | hx
    · omega
    · rw [List.eq_of_mem_replicate hx]; omega
  · rw [List.eq_of_mem_replicate hx]; omega
theorem outO_walk {s : List UInt8} (hs : s.all small = true) : ∀ (w : List UInt8) (i : Nat), w.all small = true → i ≤ s.length → walkA (outO s) (i : Int) w = decide (w = s.drop i)
  | [], i, _, hi => by
    show endR (outO s) (i : Int) = _
    unfold endR
    rw [Int.toNat_natCast]
    show (endsO s (s.length + 1)).getD i false = _
    unfold endsO
    rw [range_getD _ _ _ _ (by omega)]
    congr 1
    refine propext ⟨fun h => ?_, fun h => ?_⟩
    · rw [h, List.drop_length]
    · have := congrArg List.length h
      simp at this; omega
  | c :: w, i, hw, hi => by
    rw [List.all_cons, Bool.and_eq_true] at hw
    have hc := hw.1
    simp only [small, Bool.and_eq_true, decide_eq_true_eq] at hc
    have eg : goR (outO s) (i : Int) (c.toNat - 97) = if i < s.length ∧ s.getD i 0 = c then ((i + 1 : Nat) : Int) else -1 := by
      unfold goR
      rw [Int.toNat_natCast]
      have e : (outO s).2.2.getD i [] = rowO s i := by
        show (goesO s (s.length + 1)).getD i [] = _
        unfold goesO
        exact range_getD _ _ _ _ (by omega)
      rw [e]
      unfold rowO
      have r4 : (List.replicate 4 (-1 : Int)).getD (c.toNat - 97) 0 = -1 := by
        rw [List.getD_eq_getElem?_getD, List.getElem?_replicate, if_pos (by omega)]; rfl
      by_cases hlt : i < s.length
      · have hd := List.all_eq_true.1 hs _ (getD_mem s i 0 hlt)
        simp only [small, Bool.and_eq_true, decide_eq_true_eq] at hd
        rw [if_pos hlt, List.getD_eq_getElem?_getD, List.getElem?_set]
        by_cases he : s.getD i 0 = c
        · rw [if_pos (by rw [he]), if_pos (by rw [List.length_replicate]; omega), if_pos ⟨hlt, he⟩]; rfl
        · rw [if_neg (fun h => he (UInt8.toNat_inj.1 (by omega))), if_neg (fun h => he h.2), ← List.getD_eq_getElem?_getD]; exact r4
      · rw [if_neg hlt, if_neg (fun h => hlt h.1)]; exact r4
    show (if goR (outO s) (i : Int) (c.toNat - 97) < 0 then false else walkA (outO s) (goR (outO s) (i : Int) (c.toNat - 97)) w) = _
    rw [eg]
    by_cases h : i < s.length ∧ s.getD i 0 = c
    · rw [if_pos h, if_neg (by omega), outO_walk hs w (i + 1) hw.2 (by omega), drop_cons s i 0 h.1, h.2]
      congr 1
      exact propext ⟨fun e => by rw [e], fun e => (List.cons.inj e).2⟩
    · rw [if_neg h, if_pos (by omega)]
      refine (decide_eq_false fun e => h ?_).symm
      have hlt : i < s.length := by
        rcases Nat.lt_or_ge i s.length with h' | h'
        · exact h'
        · rw [List.drop_eq_nil_of_le h'] at e; cases e
      rw [drop_cons s i 0 hlt] at e
      exact ⟨hlt, (List.cons.inj e).1.symm⟩
theorem ofA_ok {s : List UInt8} (h : (ofA s).2 = true) : textOk s = true ∧ s.length < 6 ∧ ofA s = (outO s, true) := by
  unfold ofA at h ⊢
  split at h
  · rename_i hc; rw [if_pos hc]; exact ⟨hc.1, hc.2, rfl⟩
  · cases h
theorem of_is {s : List UInt8} (h : (ofA s).2 = true) (w : List UInt8) : isA (outO s) w = (textOk w && decide (w = s)) := by
  obtain ⟨h1, h2, _⟩ := ofA_ok h
  unfold isA
  rw [outO_ok h2, Bool.true_and]
  cases ht : textOk w with
  | false => rfl
  | true =>
    simp only [textOk, Bool.and_eq_true] at ht h1
    have := outO_walk h1.1 w 0 ht.1 (Nat.zero_le _)
    rw [List.drop_zero] at this
    show (true && walkA (outO s) 0 w) = _
    rw [show (0 : Int) = ((0 : Nat) : Int) from rfl, this]
theorem ofA_mid {s : List UInt8} : Mid (ofA s).1 := by
  have z : Mid ((0 : Int), ([] : List Bool), ([] : List (List Int))) := ⟨by simp, by simp, fun r hr => by simp at hr⟩
  unfold ofA
  split
  · rename_i h; exact (okA (outO_ok h.2)).mid
  · exact z
/-! a text's walk and its lengths -/
theorem goR_outO {s : List UInt8} (hs : s.all small = true) {i : Nat} (hi : i ≤ s.length) {c : UInt8} (hcs : small c = true) : goR (outO s) (i : Int) (c.toNat - 97) = if i < s.length ∧ s.getD i 0 = c then ((i + 1 : Nat) : Int) else -1 := by
  have hc := hcs
  simp only [small, Bool.and_eq_true, decide_eq_true_eq] at hc
  unfold goR
  rw [Int.toNat_natCast]
  have e : (outO s).2.2.getD i [] = rowO s i := by
    show (goesO s (s.length + 1)).getD i [] = _
    unfold goesO
    exact range_getD _ _ _ _ (by omega)
  rw [e]
  unfold rowO
  have r4 : (List.replicate 4 (-1 : Int)).getD (c.toNat - 97) 0 = -1 := by
    rw [List.getD_eq_getElem?_getD, List.getElem?_replicate, if_pos (by omega)]; rfl
  by_cases hlt : i < s.length
  · have hd := List.all_eq_true.1 hs _ (getD_mem s i 0 hlt)
    simp only [small, Bool.and_eq_true, decide_eq_true_eq] at hd
    rw [if_pos hlt, List.getD_eq_getElem?_getD, List.getElem?_set]
    by_cases he : s.getD i 0 = c
    · rw [if_pos (by rw [he]), if_pos (by rw [List.length_replicate]; omega), if_pos ⟨hlt, he⟩]; rfl
    · rw [if_neg (fun h => he (UInt8.toNat_inj.1 (by omega))), if_neg (fun h => he h.2), ← List.getD_eq_getElem?_getD]; exact r4
  · rw [if_neg hlt, if_neg (fun h => hlt h.1)]; exact r4
theorem outO_len (s : List UInt8) : (outO s).2.1.length = s.length + 1 := by show (endsO s _).length = _; unfold endsO; rw [List.length_map, List.length_range]
theorem getD_someO (l : List UInt8) (i : Nat) (h : i < l.length) : l[i]? = some (l.getD i 0) := by
  rw [List.getD_eq_getElem?_getD, List.getElem?_eq_getElem h]; rfl
theorem cst_ders {R : List Rl} {s : List UInt8} (hs : s.all small = true) {l : List UInt8} {i j v : Nat} (h : Cst R (aB (outO s)) (aE (outO s).2.1.length) l i j v) : i ≤ s.length → Ders R s l i j ∧ v = j - i := by
  induction h with
  | nil i => exact fun hi => ⟨.nil i hi, by omega⟩
  | small c r i m j x y hc h hr ih =>
    intro hi
    obtain ⟨_, _, h3, rfl⟩ := h
    rw [goR_outO hs hi hc] at h3
    split at h3
    · rename_i hh
      have hm : m = i + 1 := by omega
      subst hm
      obtain ⟨d1, d2⟩ := ih (by omega)
      have := d1.le
      exact ⟨.small c r i j hc (by rw [getD_someO s i hh.1, hh.2]) d1, by omega⟩
    · omega
  | none c r i m j x y hc h he hr ih =>
    intro hi
    obtain ⟨rfl, _, rfl⟩ := he
    obtain ⟨d1, d2⟩ := ih hi
    exact ⟨.big c [] r i i j hc h (.nil i hi) d1, by omega⟩
  | big c d q r i m j x y hc h hq hr ih1 ih2 =>
    intro hi
    obtain ⟨d1, d2⟩ := ih1 hi
    have l1 := d1.le
    obtain ⟨d3, d4⟩ := ih2 l1.2
    have l2 := d3.le
    exact ⟨.big c (d :: q) r i m j hc h d1 d3, by omega⟩
theorem ders_cst {R : List Rl} {s : List UInt8} (hs : s.all small = true) {l : List UInt8} {i j : Nat} (h : Ders R s l i j) : Cst R (aB (outO s)) (aE (outO s).2.1.length) l i j (j - i) := by
  induction h with
  | nil i hi => rw [Nat.sub_self]; exact .nil i
  | small c r i j hc h hr ih =>
    have := hr.le
    have hlt := (List.getElem?_eq_some_iff.1 h).1
    have hg := goR_outO hs (i := i) (by omega) hc
    have hsc : s.getD i 0 = c := by rw [getD_someO s i hlt] at h; exact Option.some.inj h
    rw [if_pos ⟨hlt, hsc⟩] at hg
    have e : j - i = 1 + (j - (i + 1)) := by omega
    rw [e]
    exact .small c r i (i + 1) j 1 _ hc ⟨by rw [outO_len]; omega, by rw [outO_len]; omega, hg, rfl⟩ ih
  | big c q r i m j hc h hq hr ih1 ih2 =>
    have l1 := hq.le
    have l2 := hr.le
    have e : j - i = (m - i) + (j - m) := by omega
    rw [e]
    cases q with
    | nil =>
      have him : i = m := by cases hq; rfl
      subst him
      rw [Nat.sub_self]
      exact .none c r i i j 0 _ hc h ⟨rfl, by rw [outO_len]; omega, rfl⟩ ih2
    | cons d q => exact .big c d q r i m j _ _ hc h ih1 ih2
theorem meets_of {g : GramT} {s : List UInt8} (hs : s.all small = true) (v : Nat) : Meets g (outO s) v ↔ (Ders g.2 s g.1 0 s.length ∧ v = s.length) := by
  have e0 : (outO s).1.toNat = 0 := rfl
  constructor
  · rintro ⟨to, t1, t2, t3⟩
    rw [e0] at t3
    rw [outO_len] at t1
    obtain ⟨d1, d2⟩ := cst_ders hs t3 (Nat.zero_le _)
    have : to = s.length := by
      unfold endR at t2
      rw [Int.toNat_natCast] at t2
      have t2 : (endsO s (s.length + 1)).getD to false = true := t2
      unfold endsO at t2
      rw [range_getD _ _ _ _ (by omega)] at t2
      exact of_decide_eq_true t2
    subst this
    exact ⟨d1, by omega⟩
  · rintro ⟨h, rfl⟩
    refine ⟨s.length, by rw [outO_len]; omega, ?_, by rw [e0]; exact ders_cst hs h⟩
    unfold endR
    rw [Int.toNat_natCast]
    show (endsO s (s.length + 1)).getD s.length false = true
    unfold endsO
    rw [range_getD _ _ _ _ (by omega)]
    exact decide_eq_true rfl
theorem law_ev (l : List Int) (h : ∀ x ∈ l, (Lit.int .u8 x).wf = true) : EvP (fun k => laws_FnMeetOf k l) (fun r => r = true) := by
  refine EvP.fn (fun k => laws_FnMeetOf_eq k l) (EvP.dec (fun _ => EvP.now rfl) (fun _ => EvP.bind (drawAllIs_ev l h) fun x hx => ?_))
  obtain ⟨hg, hl⟩ := hx
  refine EvP.bind (implOf_ev x.2) fun a ha => EvP.bind (specOf_ev x.2 (by omega)) fun b hb => ?_
  subst ha hb
  refine EvP.notF (fun _ => ?_) (fun h => absurd rfl h)
  cases hok : (ofA x.2).2 with
  | false => exact EvP.yes rfl (EvP.now (decide_eq_true rfl))
  | true =>
    obtain ⟨h1, h2, h3⟩ := ofA_ok hok
    have hsm : x.2.all small = true := by
      have := h1
      simp only [textOk, Bool.and_eq_true] at this; exact this.1
    have e1 : (ofA x.2).1 = outO x.2 := by rw [h3]
    rw [e1]
    have hao := outO_ok h2
    have hm := (okA hao).mid
    have ml := meetLeast_ev x.1 (outO x.2) hm
    refine EvP.no (by simp) (EvP.bind ml fun r hr => EvP.bind (P := fun p => p = r.2) (EvP.fn (fun k => impl_MeetHas_eq k _ _ _ _ _) (EvP.bind ml fun r' hr' => EvP.now ?_)) fun p hp => EvP.bind (implAll_ev x.1 x.2) fun q hq => ?_)
    · by_cases hgo : GramOkP x.1
      · obtain ⟨v, hv, e⟩ := hr.1 ⟨hgo, hao⟩
        obtain ⟨v', hv', e'⟩ := hr'.1 ⟨hgo, hao⟩
        have : v = v' := by
          have a1 := hv.le
          have a2 := hv'.le
          by_cases c1 : v < FM
          · have b1 := hv'.all v (hv.so c1)
            by_cases c2 : v' < FM
            · have b2 := hv.all v' (hv'.so c2); omega
            · omega
          · by_cases c2 : v' < FM
            · have b2 := hv.all v' (hv'.so c2); omega
            · omega
        rw [e, e', this]
      · rw [hr.2 (fun h => hgo h.1), hr'.2 (fun h => hgo h.1)]
    · have key : (r.2 = true ↔ AllP x.1 x.2) ∧ (r.2 = true → r.1 = (List.length x.2 : Int)) := by
        by_cases hgo : GramOkP x.1
        · obtain ⟨v, hv, e⟩ := hr.1 ⟨hgo, hao⟩
          by_cases c1 : v < FM
          · obtain ⟨d1, d2⟩ := (meets_of hsm v).1 (hv.so c1)
            rw [e, if_pos c1]
            exact ⟨⟨fun _ => ⟨hgo, h1, d1⟩, fun _ => rfl⟩, fun _ => by rw [d2]⟩
          · rw [e, if_neg c1]
            refine ⟨⟨fun h => (by cases h), fun h => ?_⟩, fun h => (by cases h)⟩
            have := hv.all x.2.length ((meets_of hsm _).2 ⟨h.2.2, rfl⟩)
            have h6 : FM = 1152921504606846976 := rfl
            omega
        · rw [hr.2 (fun h => hgo h.1)]
          exact ⟨⟨fun h => (by cases h), fun h => absurd h.1 hgo⟩, fun h => (by cases h)⟩
      have e2 : ∀ {q : Bool}, (q = true ↔ AllP x.1 x.2) → r.2 = q := fun {q} hq => by
        rw [Bool.eq_iff_iff, key.1, hq]
      refine EvP.decY (by rw [hp]; exact e2 hq) (EvP.bind (implAll_ev x.1 x.2) fun q' hq' => EvP.decY (e2 hq') (EvP.ite (fun h => EvP.now (decide_eq_true (key.2 (by simpa using h)))) (fun h => EvP.now rfl)))
end Go.Proofs.YtmonmbjjobcnaaaDoor.Pure
