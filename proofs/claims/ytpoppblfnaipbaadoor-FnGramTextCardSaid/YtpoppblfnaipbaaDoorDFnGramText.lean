/- What the reader of draws answers: they answer, and within which bounds. -/
import Derived.Test.YtpoppblfnaipbaaDoorEv
import Derived.Test.YtpoppblfnaipbaaDoorEqFnGramText
namespace Go.Proofs.YtpoppblfnaipbaaDoor.Pure
open Go Go.Proofs.YtpoppblfnaipbaaDoor.Eng Go.Proofs.YtpoppblfnaipbaaDoor.Eq Go.Proofs.YtpoppblfnaipbaaDoor.Ev
set_option autoImplicit false
set_option linter.unusedVariables false
set_option linter.unusedSimpArgs false
set_option linter.unnecessarySimpa false

def Bytes (s : List Int) : Prop := (∀ x ∈ s, 0 ≤ x ∧ x ≤ 255) ∧ s.length ≤ 2000
/-- A reader, m draws ahead. -/
def Rd (m : Nat) (b : List Int) (p : Int) : Prop := Bytes b ∧ 0 ≤ p ∧ p + m ≤ 100000000
theorem Rd.less {m n : Nat} {b : List Int} {p : Int} (h : Rd m b p) (hn : n ≤ m) : Rd n b p := ⟨h.1, h.2.1, by have := h.2.2; omega⟩

theorem open_ev (l : List Int) (h : ∀ x ∈ l, (Lit.int .u8 x).wf = true) : EvP (fun k => spec_l17Open k l) (fun r => Rd 100000000 r.1 r.2) := by
  refine EvP.fn (fun k => spec_l17Open_eq k l) (EvP.dec (fun h1 => ?_) (fun h1 => ?_))
  · refine EvP.yes (by omega) (EvP.yes (by omega) (EvP.yes (by omega) (EvP.now ⟨⟨fun x hx => wf_byte (h x ?_), ?_⟩, by simp, by simp⟩)))
    · exact List.mem_of_mem_take (List.mem_of_mem_drop hx)
    · simp; omega
  · exact EvP.now ⟨⟨fun x hx => wf_byte (h x hx), by show l.length ≤ 2000; omega⟩, by simp, by simp⟩

theorem pick_ev {m : Nat} {b : List Int} {p : Int} (hr : Rd (m + 1) b p) {n : Int} (hn : 1 ≤ n) (hn2 : n ≤ 1000000000) :
    EvP (fun k => spec_l17Rd_pick k b p n) (fun r => 0 ≤ r.1 ∧ r.1 < n ∧ Rd m r.2.1 r.2.2) := by
  obtain ⟨⟨hb, hl⟩, hp, hp2⟩ := hr
  have e1 : IntKind.i64.wrap (p + 1) = p + 1 := w64 (by omega) (by omega)
  have e2 : IntKind.i64.wrap (p + 1 - 1) = p := by rw [w64 (by omega) (by omega)]; omega
  have fin : ∀ x : Int, 0 ≤ x ∧ x < n → (0 ≤ (x, b, p + 1).1 ∧ (x, b, p + 1).1 < n ∧ Rd m (x, b, p + 1).2.1 (x, b, p + 1).2.2) := fun x h => ⟨h.1, h.2, ⟨hb, hl⟩, by show 0 ≤ p + 1; omega, by show p + 1 + m ≤ 100000000; omega⟩
  refine EvP.fn (fun k => spec_l17Rd_pick_eq k b p n) ?_
  rw [e1, e2]
  refine EvP.decF (fun _ => ?_) (fun h => absurd h (by omega))
  refine EvP.dec (fun h0 => EvP.now (fin 0 (by omega))) (fun h0 => ?_)
  refine EvP.dec (fun h1 => ?_) (fun h1 => ?_)
  · refine EvP.yes hp (EvP.yes h1 (EvP.no (by omega) (EvP.now (fin _ ?_))))
    have hx := getD_byte hb p.toNat
    rw [w64 (by omega) (by omega)]
    exact tmod_range _ n hx.1 hn
  · have hL : (1 : Int) ≤ b.length := by omega
    have t1 := tmod_range p b.length hp hL
    have e3 : IntKind.i64.wrap (p * 7) = p * 7 := w64 (by omega) (by omega)
    have e4 : IntKind.i64.wrap (p * 7 + 3) = p * 7 + 3 := w64 (by omega) (by omega)
    have t2 := tmod_range (p * 7 + 3) b.length (by omega) hL
    rw [e3, e4]
    refine EvP.no (by omega) (EvP.yes t1.1 (EvP.yes t1.2 (EvP.no (by omega) (EvP.yes t2.1 (EvP.yes t2.2 (EvP.no (by omega) (EvP.no (by omega) (EvP.now (fin _ ?_)))))))))
    generalize hA : b.getD (p.tmod b.length).toNat 0 = A
    generalize hB : b.getD ((p * 7 + 3).tmod b.length).toNat 0 = B'
    have hA' := getD_byte hb (p.tmod b.length).toNat
    have hB' := getD_byte hb ((p * 7 + 3).tmod b.length).toNat
    rw [hA] at hA'
    rw [hB] at hB'
    have hq : 0 ≤ Int.tdiv p b.length ∧ Int.tdiv p b.length ≤ p := ⟨Int.tdiv_nonneg hp (by omega), by
      rw [Int.tdiv_eq_ediv_of_nonneg hp]; exact Int.ediv_le_self _ hp⟩
    generalize Int.tdiv p b.length = Q at hq
    rw [w64 (x := A) (by omega) (by omega), w64 (x := B') (by omega) (by omega), w64 (x := A * 131) (by omega) (by omega), w64 (x := B' * 1117) (by omega) (by omega), w64 (x := p * 29) (by omega) (by omega), w64 (x := Q) (by omega) (by omega), w64 (x := Q * 53) (by omega) (by omega), w64 (x := A * 131 + B' * 1117) (by omega) (by omega), w64 (x := A * 131 + B' * 1117 + p * 29) (by omega) (by omega), w64 (x := A * 131 + B' * 1117 + p * 29 + Q * 53) (by omega) (by omega)]
    generalize hX : A * 131 + B' * 1117 + p * 29 + Q * 53 = X
    have hX1 : 0 ≤ X ∧ X ≤ 100000000000 := by omega
    have hd : 0 ≤ Int.tdiv X 64 ∧ Int.tdiv X 64 ≤ X := ⟨Int.tdiv_nonneg hX1.1 (by omega), by
      rw [Int.tdiv_eq_ediv_of_nonneg hX1.1]; exact Int.ediv_le_self _ hX1.1⟩
    generalize Int.tdiv X 64 = Y at hd
    rw [w64 (x := Y) (by omega) (by omega)]
    exact tmod_range (bxor X Y) n (xor_nonneg X Y (by omega) (by omega) (by omega) (by omega)) hn
theorem num_ev {m : Nat} {b : List Int} {p : Int} (hr : Rd (m + 1) b p) (l : List Int) (hl : 1 ≤ l.length) (hl2 : l.length ≤ 1000) :
    EvP (fun k => spec_l17Rd_num k b p l) (fun r => r.1 ∈ l ∧ Rd m r.2.1 r.2.2) := by
  refine EvP.fn (fun k => spec_l17Rd_num_eq k b p l) (EvP.bind (pick_ev hr (n := l.length) (by omega) (by omega)) fun a ha => ?_)
  exact EvP.yes ha.1 (EvP.yes ha.2.1 (EvP.now ⟨getD_mem _ _ _ (by omega), ha.2.2⟩))
theorem of_ev {m : Nat} {b : List Int} {p : Int} (hr : Rd (m + 1) b p) (l : List (List UInt8)) (hl : 1 ≤ l.length) (hl2 : l.length ≤ 1000) :
    EvP (fun k => spec_l17Rd_of k b p l) (fun r => r.1 ∈ l ∧ Rd m r.2.1 r.2.2) := by
  refine EvP.fn (fun k => spec_l17Rd_of_eq k b p l) (EvP.bind (pick_ev hr (n := l.length) (by omega) (by omega)) fun a ha => ?_)
  exact EvP.yes ha.1 (EvP.yes ha.2.1 (EvP.now ⟨getD_mem _ _ _ (by omega), ha.2.2⟩))
/-! signs -/
def small (c : UInt8) : Bool := decide (97 ≤ c.toNat) && decide (c.toNat ≤ 100)
theorem l1Small_ev (c : UInt8) : EvP (fun k => spec_l1Small k ((c.toNat : Nat) : Int)) (fun r => r = small c) := by
  refine EvP.fn (fun k => spec_l1Small_eq k _) (EvP.dec (fun h => EvP.now ?_) (fun h => EvP.now ?_))
  · have h1 : 97 ≤ c.toNat := by omega
    have e : decide ((c.toNat : Int) ≤ 100) = decide (c.toNat ≤ 100) := by congr 1; exact propext ⟨fun h => by omega, fun h => by omega⟩
    rw [e]; simp [small, h1]
  · have h1 : ¬ 97 ≤ c.toNat := by omega
    simp [small, h1]
theorem drop_cons {α : Type} (l : List α) (i : Nat) (d : α) (h : i < l.length) : l.drop i = l.getD i d :: l.drop (i + 1) := by
  rw [List.drop_eq_getElem_cons h, List.getD_eq_getElem?_getD, List.getElem?_eq_getElem h]; rfl
/-! strings.Trim -/
theorem dropWhile_all {α : Type} (p : α → Bool) : ∀ l : List α, l.dropWhile p = [] ↔ l.all p = true
  | [] => by simp
  | x :: l => by
    rw [List.dropWhile_cons]
    cases h : p x with
    | true => simp only [if_true, List.all_cons, h, Bool.true_and]; exact dropWhile_all p l
    | false => simp [h]
theorem trim_nil (s c : List UInt8) : (trimE s c = []) ↔ s.all c.contains = true := by
  unfold trimE
  rw [List.reverse_eq_nil_iff, dropWhile_all, List.all_reverse, ← dropWhile_all]
  constructor
  · intro h
    have h1 := (dropWhile_all _ _).1 h
    cases hd : s.dropWhile c.contains with
    | nil => exact (dropWhile_all _ _).1 hd
    | cons x l =>
      exfalso
      have h2 : (x :: l).dropWhile c.contains = [] := hd ▸ h
      have h3 : c.contains x = false := by
        have := List.head?_dropWhile_not c.contains s
        rw [hd] at this; simpa using this
      rw [List.dropWhile_cons, h3] at h2
      simp at h2
  · intro h
    rw [(dropWhile_all _ _).2 h]; rfl
/-! grammars drawn -/
abbrev GramT := List UInt8 × List (List UInt8 × List UInt8)
/-- At most n rules, all short. -/
def Gr (n : Nat) (g : GramT) : Prop := g.1.length ≤ 5 ∧ g.2.length ≤ n ∧ ∀ x ∈ g.2, x.1.length ≤ 5 ∧ x.2.length ≤ 5
theorem mG {n : Nat} (h : n ≤ 1000000) : n < maxLenE := by unfold maxLenE; omega
theorem Gr.more {n m : Nat} {g : GramT} (h : Gr n g) (hm : n ≤ m) : Gr m g := ⟨h.1, by have := h.2.1; omega, h.2.2⟩
theorem Gr.add {n : Nat} {g : GramT} (h : Gr n g) (x : List UInt8 × List UInt8) (hx : x.1.length ≤ 5 ∧ x.2.length ≤ 5) : Gr (n + 1) (g.1, g.2 ++ [x]) :=
  ⟨h.1, by have := h.2.1; simp; omega, fun y hy => by
    rcases List.mem_append.1 hy with hy | hy
    · exact h.2.2 y hy
    · rw [List.mem_singleton.1 hy]; exact hx⟩
theorem Gr.set {n : Nat} {g : GramT} (h : Gr n g) (i : Nat) (x : List UInt8 × List UInt8) (hx : x.1.length ≤ 5 ∧ x.2.length ≤ 5) : Gr n (g.1, g.2.set i x) :=
  ⟨h.1, by have := h.2.1; simp; omega, fun y hy => by
    rcases List.mem_or_eq_of_mem_set hy with hy | hy
    · exact h.2.2 y hy
    · rw [hy]; exact hx⟩
theorem Gr.at {n : Nat} {g : GramT} (h : Gr n g) (i : Nat) (hi : i < g.2.length) : (g.2.getD i ([], [])).1.length ≤ 5 ∧ (g.2.getD i ([], [])).2.length ≤ 5 := h.2.2 _ (getD_mem _ _ _ hi)
theorem signed_loop : ∀ (n m : Nat) {b : List Int} {p : Int} (t : List UInt8) (i N : Int), i + n = N → 0 ≤ i → N ≤ 1000 → Rd (m + n) b p → t.length ≤ i → EvP (fun k => spec_l1Signed_L58 k (b, p) N t i) (fun r => r.1.length ≤ N ∧ Rd m r.2.1 r.2.2)
  | 0, m, b, p, t, i, N, h, h0, hN, hr, ht => by
    refine EvP.fn (fun k => spec_l1Signed_L58_eq k _ _ _ _) (EvP.decN (by omega) (EvP.now ⟨by show (t.length : Int) ≤ N; omega, hr⟩))
  | n + 1, m, b, p, t, i, N, h, h0, hN, hr, ht => by
    refine EvP.fn (fun k => spec_l1Signed_L58_eq k _ _ _ _) (EvP.decY (by omega) ?_)
    refine EvP.bind (of_ev (m := m + n) (hr.less (by omega)) _ (by simp) (by simp)) fun a ha => ?_
    have hl : a.1.length = 1 := by
      have := ha.1
      simp only [List.mem_cons, List.not_mem_nil, or_false] at this
      rcases this with h | h | h | h | h | h | h | h | h <;> rw [h] <;> rfl
    refine EvP.yes (by omega) ?_
    rw [w64 (by omega) (by omega)]
    exact signed_loop n m _ (i + 1) N (by omega) (by omega) hN ha.2 (by simp [hl]; omega)
theorem signed_ev {m n : Nat} {b : List Int} {p : Int} {N : Int} (h0 : 0 ≤ N) (hN : N ≤ n) (hn : n ≤ 1000) (hr : Rd (m + n) b p) : EvP (fun k => spec_l1Signed k b p N) (fun r => r.1.length ≤ N ∧ Rd m r.2.1 r.2.2) := by
  obtain ⟨N', rfl⟩ := Int.eq_ofNat_of_zero_le h0
  exact EvP.fn (fun k => spec_l1Signed_eq k _ _ _) (signed_loop N' m [] 0 _ (by omega) (by omega) (by omega) (hr.less (by omega)) (by simp))
theorem place_loop (l : List (List UInt8 × List UInt8)) (hl : l.length ≤ 1000) (x : List UInt8 × List UInt8) : ∀ (n i : Nat), i + n = l.length → EvP (fun k => spec_l1Place_L26 k l x (i : Int)) (fun r => r < 0 ↔ x ∉ l.drop i)
  | 0, i, h => by
    refine EvP.fn (fun k => spec_l1Place_L26_eq k _ _ _) (EvP.decN (by omega) (EvP.now ?_))
    rw [List.drop_eq_nil_of_le (by omega)]
    exact ⟨fun _ h => absurd h List.not_mem_nil, fun _ => by decide⟩
  | n + 1, i, h => by
    refine EvP.fn (fun k => spec_l1Place_L26_eq k _ _ _) (EvP.decY (by omega) (EvP.yes (by omega) (EvP.yes (by omega) ?_)))
    rw [Int.toNat_natCast, drop_cons l i ([], []) (by omega)]
    refine EvP.ite (fun h' => EvP.now ?_) (fun h' => ?_)
    · simp only [Bool.and_eq_true, decide_eq_true_eq] at h'
      have e : x = l.getD i ([], []) := Prod.ext h'.1.symm h'.2.symm
      exact ⟨fun h => absurd h (by omega), fun h => absurd (e ▸ List.mem_cons_self) h⟩
    · have e : ¬ x = l.getD i ([], []) := fun e => h' (by rw [← e]; simp)
      rw [w64 (by omega) (by omega)]
      refine (place_loop l hl x n (i + 1) (by omega)).mono fun r hr => ?_
      rw [hr, List.mem_cons, not_or]
      exact ⟨fun h => ⟨e, h⟩, fun h => h.2⟩
theorem place_ev (l : List (List UInt8 × List UInt8)) (hl : l.length ≤ 1000) (x y : List UInt8) : EvP (fun k => spec_l1Place k l x y) (fun r => r < 0 ↔ (x, y) ∉ l) := by
  refine EvP.fn (fun k => spec_l1Place_eq k _ _ _) ((place_loop l hl (x, y) l.length 0 (by omega)).mono fun r hr => ?_)
  rw [hr, List.drop_zero]
theorem base_ev (n : Int) : EvP (fun k => spec_l1Base k n) (fun r => Gr 6 r) := by
  refine EvP.fn (fun k => spec_l1Base_eq k _) ?_
  refine EvP.dec (fun _ => EvP.now ?_) (fun _ => EvP.dec (fun _ => EvP.now ?_) (fun _ => EvP.dec (fun _ => EvP.now ?_) (fun _ => EvP.dec (fun _ => EvP.now ?_) (fun _ => EvP.dec (fun _ => EvP.now ?_) (fun _ => EvP.dec (fun _ => EvP.now ?_) (fun _ => EvP.dec (fun _ => EvP.now ?_) (fun _ => EvP.now ?_)))))))
  all_goals (unfold Gr; decide)
theorem gram_loop : ∀ (n m : Nat) {b : List Int} {p : Int} (x g : GramT) (q : Nat), Gr q g → q + n ≤ 100 → Rd (m + 5 * n) b p →
    EvP (fun k => spec_l1Gram_L122 k (b, p) x g (n : Int)) (fun r => Gr (q + n) r.1 ∧ Rd m r.2.1 r.2.2)
  | 0, m, b, p, x, g, q, hg, hq, hr => by
    refine EvP.fn (fun k => spec_l1Gram_L122_eq k _ _ _ _) (EvP.decN (by omega) (EvP.now ⟨hg, hr⟩))
  | n + 1, m, b, p, x, g, q, hg, hq, hr => by
    have hg2 := hg.2.1
    refine EvP.fn (fun k => spec_l1Gram_L122_eq k _ _ _ _) (EvP.decY (by omega) ?_)
    refine EvP.bind (of_ev (m := m + 5 * n + 4) (hr.less (by omega)) _ (by simp) (by simp)) fun a ha => ?_
    have hl : a.1.length = 1 := by
      have := ha.1
      simp only [List.mem_cons, List.not_mem_nil, or_false] at this
      rcases this with h | h | h | h <;> rw [h] <;> rfl
    refine EvP.bind (num_ev (m := m + 5 * n + 3) (ha.2.less (by omega)) _ (by simp) (by simp)) fun c hc => ?_
    have hcb : 0 ≤ c.1 ∧ c.1 ≤ 3 := by
      have := hc.1
      simp only [List.mem_cons, List.not_mem_nil, or_false] at this
      omega
    refine EvP.bind (signed_ev (m := m + 5 * n) (n := 3) hcb.1 (by omega) (by omega) (hc.2.less (by omega))) fun d hd => ?_
    refine EvP.bind (place_ev g.2 (by omega) a.1 d.1) fun e he => ?_
    have e1 : IntKind.i64.wrap (((n + 1 : Nat) : Int) - 1) = (n : Int) := by rw [w64 (by omega) (by have := hr.2.2; omega)]; omega
    rw [e1]
    refine EvP.dec (fun _ => EvP.yes (mG (by simp; omega)) ?_) (fun _ => ?_)
    · exact (gram_loop n m _ _ (q + 1) (hg.add (a.1, d.1) ⟨by show a.1.length ≤ 5; omega, by show d.1.length ≤ 5; omega⟩) (by omega) hd.2).mono fun r hr => ⟨hr.1.more (by omega), hr.2⟩
    · exact (gram_loop n m _ _ q hg (by omega) hd.2).mono fun r hr => ⟨hr.1.more (by omega), hr.2⟩
theorem gram_ev {m : Nat} {b : List Int} {p : Int} (hr : Rd (m + 30) b p) : EvP (fun k => spec_l1Gram k b p) (fun r => Gr 6 r.1 ∧ Rd m r.2.1 r.2.2) := by
  refine EvP.fn (fun k => spec_l1Gram_eq k _ _) (EvP.bind (pick_ev (m := m + 29) hr (by omega) (by omega)) fun a ha => EvP.dec (fun _ => ?_) (fun _ => ?_))
  · refine EvP.bind (num_ev (m := m + 28) ha.2.2 _ (by simp) (by simp)) fun c hc => EvP.bind (base_ev c.1) fun d hd => EvP.now ⟨hd, hc.2.less (by omega)⟩
  · refine EvP.bind (num_ev (m := m + 28) ha.2.2 _ (by simp) (by simp)) fun c hc => ?_
    have hcb : 0 ≤ c.1 ∧ c.1 ≤ 5 := by
      have := hc.1
      simp only [List.mem_cons, List.not_mem_nil, or_false] at this
      omega
    obtain ⟨N, hN⟩ := Int.eq_ofNat_of_zero_le hcb.1
    rw [hN]
    exact (gram_loop N m _ _ 0 ⟨by decide, by decide, by simp⟩ (by omega) (hc.2.less (by omega))).mono fun r hr => ⟨hr.1.more (by omega), hr.2⟩
theorem full_loop : ∀ (n m : Nat) {b : List Int} {p : Int} (x g : GramT) (q : Nat), Gr q g → 9 ≤ g.2.length + n → 9 ≤ q → Rd (m + 3 * n) b p →
    EvP (fun k => spec_l1Bent_L259582 k (b, p) x g) (fun r => Gr q r.1 ∧ Rd m r.2.1 r.2.2)
  | 0, m, b, p, x, g, q, hg, h, hq, hr => by
    refine EvP.fn (fun k => spec_l1Bent_L259582_eq k _ _ _) (EvP.decN (by omega) (EvP.now ⟨hg, hr⟩))
  | n + 1, m, b, p, x, g, q, hg, h, hq, hr => by
    refine EvP.fn (fun k => spec_l1Bent_L259582_eq k _ _ _) (EvP.dec (fun h8 => ?_) (fun _ => EvP.now ⟨hg, hr.less (by omega)⟩))
    refine EvP.bind (signed_ev (m := m + 3 * n) (n := 3) (by omega) (by omega) (by omega) (hr.less (by omega))) fun d hd => ?_
    refine EvP.yes (mG (by simp; omega)) ?_
    have hg8 : Gr 8 g := ⟨hg.1, by omega, hg.2.2⟩
    exact full_loop n m _ _ q ((hg8.add (_, d.1) ⟨by show 1 ≤ 5; decide, by show d.1.length ≤ 5; have := hd.1; omega⟩).more hq) (by simp; omega) hq hd.2
theorem lens {l : List (List UInt8)} {x : List UInt8} (h : x ∈ l) (hl : (l.all fun x => decide (x.length ≤ 5)) = true) : x.length ≤ 5 := of_decide_eq_true (List.all_eq_true.1 hl x h)
theorem bentG_ev {m : Nat} {b : List Int} {p : Int} (hr : Rd (m + 40) b p) (n : Nat) (hn : n ≤ 100) (h8 : 8 ≤ n) (g : GramT) (hg : Gr n g) : EvP (fun k => spec_l1Bent k b p g.1 g.2) (fun r => Gr (n + 1) r.1 ∧ Rd m r.2.1 r.2.2) := by
  have hg2 := hg.2.1
  refine EvP.fn (fun k => spec_l1Bent_eq k _ _ _ _) (EvP.yes (mG (by omega)) (EvP.bind (pick_ev (m := m + 39) hr (by omega) (by omega)) fun a ha => ?_))
  refine EvP.decF (fun _ => EvP.dec (fun _ => EvP.now ⟨hg.more (by omega), ha.2.2.less (by omega)⟩) (fun h0 => ?_)) (fun _ => EvP.now ⟨hg.more (by omega), ha.2.2.less (by omega)⟩)
  refine EvP.bind (pick_ev (m := m + 38) ha.2.2 (by omega) (by omega)) fun c hc => EvP.bind (pick_ev (m := m + 37) hc.2.2 (by omega) (by omega)) fun d hd => ?_
  have hat := hg.at c.1.toNat (by omega)
  refine EvP.dec (fun _ => ?_) (fun _ => EvP.dec (fun _ => ?_) (fun _ => EvP.dec (fun _ => ?_) (fun _ => EvP.dec (fun _ => ?_) (fun _ => ?_))))
  · exact EvP.bind (of_ev (m := m + 36) hd.2.2 _ (by simp) (by simp)) fun e he => EvP.now ⟨⟨lens he.1 (by decide), by show g.2.length ≤ n + 1; omega, hg.2.2⟩, he.2.less (by omega)⟩
  · refine EvP.bind (of_ev (m := m + 36) hd.2.2 _ (by simp) (by simp)) fun e he => ?_
    have hl := lens he.1 (by decide)
    exact EvP.yes hc.1 (EvP.yes hc.2.1 (EvP.now ⟨(hg.set _ (e.1, _) ⟨hl, hat.2⟩).more (by omega), he.2.less (by omega)⟩))
  · refine EvP.bind (of_ev (m := m + 36) hd.2.2 _ (by simp) (by simp)) fun e he => ?_
    have hl := lens he.1 (by decide)
    exact EvP.yes hc.1 (EvP.yes hc.2.1 (EvP.now ⟨(hg.set _ (_, e.1) ⟨hat.1, hl⟩).more (by omega), he.2.less (by omega)⟩))
  · exact EvP.yes hc.1 (EvP.yes hc.2.1 (EvP.yes (mG (by simp; omega)) (EvP.now ⟨hg.add _ hat, hd.2.2.less (by omega)⟩)))
  · exact (full_loop 9 m _ g (n + 1) (hg.more (by omega)) (by omega) (by omega) (hd.2.2.less (by omega)))
def signSmall (s : List UInt8) : Bool := match s with | [c] => small c | _ => false
/-! grammars that are right -/
def big (c : UInt8) : Bool := decide (65 ≤ c.toNat) && decide (c.toNat ≤ 69)
def signBig (s : List UInt8) : Bool := match s with | [c] => big c | _ => false
def sign (c : UInt8) : Bool := big c || small c
def ruleOk (x : List UInt8 × List UInt8) : Bool := signBig x.1 && (x.2.all sign && decide (x.2.length ≤ 4))
def GramOkP (g : GramT) : Prop := signBig g.1 = true ∧ g.2.length ≤ 8 ∧ ∀ j, j < g.2.length → ruleOk (g.2.getD j ([], [])) = true ∧ g.2.getD j ([], []) ∉ g.2.take j
theorem l1Big_ev (c : UInt8) : EvP (fun k => spec_l1Big k ((c.toNat : Nat) : Int)) (fun r => r = big c) := by
  refine EvP.fn (fun k => spec_l1Big_eq k _) (EvP.dec (fun h => EvP.now ?_) (fun h => EvP.now ?_))
  · have h1 : 65 ≤ c.toNat := by omega
    have e : decide ((c.toNat : Int) ≤ 69) = decide (c.toNat ≤ 69) := by congr 1; exact propext ⟨fun h => by omega, fun h => by omega⟩
    rw [e]; simp [big, h1]
  · have h1 : ¬ 65 ≤ c.toNat := by omega
    simp [big, h1]
theorem specSignBig_ev (s : List UInt8) : EvP (fun k => spec_SignBig k s) (fun r => r = signBig s) := by
  refine EvP.fn (fun k => spec_SignBig_eq k s) (EvP.dec (fun h => EvP.yes (by omega) (EvP.yes (by omega) (EvP.bind (l1Big_ev _) fun b hb => EvP.now ?_))) (fun h => EvP.now ?_))
  · match s, h with
    | [c], _ => exact hb
  · match s, h with
    | [], _ => rfl
    | [c], h => exact absurd rfl h
    | _ :: _ :: _, _ => rfl
theorem isIn_ev (s : List UInt8) (lo hi : Nat) : EvP (fun k => impl_isIn k s lo hi) (fun r => r = (match s with | [c] => decide (lo ≤ c.toNat) && decide (c.toNat ≤ hi) | _ => false)) := by
  refine EvP.fn (fun k => impl_isIn_eq k s _ _) (EvP.dec (fun h => EvP.yes (by omega) (EvP.yes (by omega) (EvP.dec (fun h1 => EvP.yes (by omega) (EvP.yes (by omega) (EvP.now ?_))) (fun h1 => EvP.now ?_)))) (fun h => EvP.now ?_))
  · match s, h with
    | [c], _ =>
      have h1 : lo ≤ c.toNat := by have : (lo : Int) ≤ (c.toNat : Int) := h1; omega
      show decide ((c.toNat : Int) ≤ (hi : Int)) = _
      have e : decide ((c.toNat : Int) ≤ (hi : Int)) = decide (c.toNat ≤ hi) := by congr 1; exact propext ⟨fun h => by omega, fun h => by omega⟩
      rw [e]; simp [h1]
  · match s, h with
    | [c], _ =>
      have h1 : ¬ lo ≤ c.toNat := by have : ¬ (lo : Int) ≤ (c.toNat : Int) := h1; omega
      simp [h1]
  · match s, h with
    | [], _ => rfl
    | [c], h => exact absurd rfl h
    | _ :: _ :: _, _ => rfl
theorem implSignBig_ev (s : List UInt8) : EvP (fun k => impl_SignBig k s) (fun r => r = signBig s) :=
  EvP.fn (fun k => impl_SignBig_eq k s) (EvP.bind (isIn_ev s 65 69) fun r hr => EvP.now (by rw [hr]; rfl))
def signs : List UInt8 := [65, 66, 67, 68, 69, 97, 98, 99, 100]
set_option maxRecDepth 100000 in
theorem sign_contains (c : UInt8) : signs.contains c = sign c := by
  have key : ∀ n : Nat, n < 256 → signs.contains (UInt8.ofNat n) = sign (UInt8.ofNat n) := by decide +kernel
  have := key c.toNat (UInt8.toNat_lt c)
  rwa [UInt8.ofNat_toNat] at this
theorem areSigns_ev (s : List UInt8) : EvP (fun k => impl_areSigns k s 4) (fun r => r = (s.all sign && decide (s.length ≤ 4))) := by
  refine EvP.fn (fun k => impl_areSigns_eq k _ _) (EvP.dec (fun h => ?_) (fun h => EvP.now ?_))
  · refine EvP.bind (P := fun r => r = trimE s signs) (EvP.fn (fun k => strings_Trim_eq k _ _) (EvP.yes ⟨by omega, by decide, by decide⟩ (EvP.now rfl))) fun r hr => EvP.now ?_
    have e : (signs.contains : UInt8 → Bool) = sign := funext sign_contains
    have h4 : s.length ≤ 4 := by omega
    have := trim_nil s signs
    rw [e] at this
    rw [hr]
    show decide (trimE s signs = []) = _
    simp only [h4, decide_true, Bool.and_true]
    cases hs : s.all sign with
    | true => exact decide_eq_true (this.2 hs)
    | false => exact decide_eq_false (fun h => by rw [this.1 h] at hs; cases hs)
  · have h4 : ¬ s.length ≤ 4 := by omega
    simp [h4]
theorem l1Right_loop (s : List UInt8) (hs : s.length ≤ 1000000) : ∀ (n i : Nat), i + n = s.length → EvP (fun k => spec_l1Right_L26 k s 4 (i : Int)) (fun r => r = ((s.drop i).all sign && decide (s.length ≤ 4)))
  | 0, i, h => by
    refine EvP.fn (fun k => spec_l1Right_L26_eq k _ _ _) (EvP.decN (by omega) (EvP.now ?_))
    have e : decide ((s.length : Int) ≤ 4) = decide (s.length ≤ 4) := by congr 1; exact propext ⟨fun h => by omega, fun h => by omega⟩
    rw [e, List.drop_eq_nil_of_le (by omega)]; simp
  | n + 1, i, h => by
    refine EvP.fn (fun k => spec_l1Right_L26_eq k _ _ _) (EvP.decY (by omega) (EvP.yes (by omega) (EvP.yes (by omega) ?_)))
    rw [Int.toNat_natCast, w64 (by omega) (by omega), drop_cons s i 0 (by omega)]
    have next := l1Right_loop s hs n (i + 1) (by omega)
    refine EvP.bind (l1Big_ev _) fun b hb => ?_
    subst hb
    cases hc : big (s.getD i 0) with
    | true =>
      refine EvP.no (by simp) (next.mono fun r hr => ?_)
      have : sign (s.getD i 0) = true := by simp only [sign, hc, Bool.true_or]
      rw [hr, List.all_cons, this, Bool.true_and]
    | false =>
      refine EvP.yes rfl (EvP.yes (by omega) (EvP.yes (by omega) (EvP.bind (l1Small_ev _) fun b hb => ?_)))
      subst hb
      have e : sign (s.getD i 0) = small (s.getD i 0) := by simp only [sign, hc, Bool.false_or]
      cases hd : small (s.getD i 0) with
      | true => exact EvP.no (by simp) (next.mono fun r hr => by rw [hr, List.all_cons, e, hd, Bool.true_and])
      | false => exact EvP.yes rfl (EvP.now (by rw [List.all_cons, e, hd]; rfl))
theorem l1Right_ev (s : List UInt8) (hs : s.length ≤ 1000000) : EvP (fun k => spec_l1Right k s 4) (fun r => r = (s.all sign && decide (s.length ≤ 4))) :=
  EvP.fn (fun k => spec_l1Right_eq k _ _) ((l1Right_loop s hs s.length 0 (by omega)).mono fun r hr => by rw [hr, List.drop_zero])
theorem indexRule_loop (l : List (List UInt8 × List UInt8)) (hl : l.length ≤ 1000) (x : List UInt8 × List UInt8) : ∀ (n i : Nat), i + n = l.length → EvP (fun k => slices_Index_Simpl_Rule_impl_Rule_L26 k l x (l.length : Int) (i : Int)) (fun r => r < 0 ↔ x ∉ l.drop i)
  | 0, i, h => by
    refine EvP.fn (fun k => slices_Index_Simpl_Rule_impl_Rule_L26_eq k _ _ _ _) (EvP.decN (by omega) (EvP.now ?_))
    rw [List.drop_eq_nil_of_le (by omega)]
    exact ⟨fun _ h => absurd h List.not_mem_nil, fun _ => by decide⟩
  | n + 1, i, h => by
    refine EvP.fn (fun k => slices_Index_Simpl_Rule_impl_Rule_L26_eq k _ _ _ _) (EvP.decY (by omega) (EvP.yes (by omega) (EvP.yes (by omega) ?_)))
    rw [Int.toNat_natCast, drop_cons l i ([], []) (by omega)]
    refine EvP.ite (fun h' => EvP.now ?_) (fun h' => ?_)
    · simp only [Bool.and_eq_true, decide_eq_true_eq] at h'
      have e : x = l.getD i ([], []) := Prod.ext h'.1 h'.2
      exact ⟨fun h => absurd h (by omega), fun h => absurd (e ▸ List.mem_cons_self) h⟩
    · have e : ¬ x = l.getD i ([], []) := fun e => h' (by rw [← e]; simp)
      rw [w64 (by omega) (by omega)]
      refine (indexRule_loop l hl x n (i + 1) (by omega)).mono fun r hr => ?_
      rw [hr, List.mem_cons, not_or]
      exact ⟨fun h => ⟨e, h⟩, fun h => h.2⟩
theorem hasRule_ev (l : List (List UInt8 × List UInt8)) (hl : l.length ≤ 1000) (x y : List UInt8) : EvP (fun k => slices_Contains_Simpl_Rule_impl_Rule k l x y) (fun r => r = true ↔ (x, y) ∈ l) := by
  refine EvP.fn (fun k => slices_Contains_Simpl_Rule_impl_Rule_eq k _ _ _) (EvP.bind (P := fun r => r < 0 ↔ (x, y) ∉ l) (EvP.fn (fun k => slices_Index_Simpl_Rule_impl_Rule_eq k _ _ _) ((indexRule_loop l hl (x, y) l.length 0 (by omega)).mono fun r hr => by rw [hr, List.drop_zero])) fun r hr => EvP.now ?_)
  rw [decide_eq_true_iff]
  by_cases h : (x, y) ∈ l
  · exact ⟨fun _ => h, fun _ => by have := mt hr.1 (fun h' => h' h); omega⟩
  · exact ⟨fun h0 => absurd (hr.2 h) (by omega), fun h' => absurd h' h⟩
/-- From a place on. -/
def okFrom (l : List (List UInt8 × List UInt8)) (i : Nat) : Prop := ∀ j, i ≤ j → j < l.length → ruleOk (l.getD j ([], [])) = true ∧ l.getD j ([], []) ∉ l.take j
theorem okFrom_step {l : List (List UInt8 × List UInt8)} {i : Nat} (hi : i < l.length) : okFrom l i ↔ ((ruleOk (l.getD i ([], [])) = true ∧ l.getD i ([], []) ∉ l.take i) ∧ okFrom l (i + 1)) := by
  constructor
  · intro h; exact ⟨h i (Nat.le_refl _) hi, fun j hj hl => h j (by omega) hl⟩
  · rintro ⟨h1, h2⟩ j hj hl
    rcases Nat.eq_or_lt_of_le hj with e | e
    · rw [← e]; exact h1
    · exact h2 j e hl
theorem implGramOk_loop (g : GramT) (hg : g.2.length ≤ 8) : ∀ (n i : Nat), i + n = g.2.length → EvP (fun k => impl_GramOk_L58 k g g.2 (g.2.length : Int) (i : Int)) (fun r => r = true ↔ okFrom g.2 i)
  | 0, i, h => by
    refine EvP.fn (fun k => impl_GramOk_L58_eq k _ _ _ _) (EvP.decN (by omega) (EvP.now ?_))
    exact ⟨fun _ j h1 h2 => by omega, fun _ => rfl⟩
  | n + 1, i, h => by
    refine EvP.fn (fun k => impl_GramOk_L58_eq k _ _ _ _) (EvP.decY (by omega) (EvP.yes (by omega) (EvP.yes (by omega) ?_)))
    rw [Int.toNat_natCast, okFrom_step (by omega)]
    refine EvP.bind (implSignBig_ev _) fun b hb => ?_
    subst hb
    cases h1 : signBig (g.2.getD i ([], [])).1 with
    | false => exact EvP.no (by simp) (EvP.now ⟨fun h => by simp at h, fun h => by have := h.1.1; simp only [ruleOk, h1, Bool.false_and] at this; cases this⟩)
    | true =>
      refine EvP.yes rfl (EvP.bind (areSigns_ev _) fun b hb => ?_)
      subst hb
      cases h2 : ((g.2.getD i ([], [])).2.all sign && decide ((g.2.getD i ([], [])).2.length ≤ 4)) with
      | false => exact EvP.no (by simp) (EvP.now ⟨fun h => by simp at h, fun h => by have := h.1.1; simp only [ruleOk, h1, h2] at this; simp at this⟩)
      | true =>
        have hok : ruleOk (g.2.getD i ([], [])) = true := by simp only [ruleOk, h1, h2, Bool.and_self]
        refine EvP.yes rfl (EvP.yes (by omega) (EvP.yes (by omega) (EvP.yes (by show (i : Int) ≤ (g.2.length : Int); omega) ?_)))
        refine EvP.bind (hasRule_ev _ (by simp; omega) _ _) fun b hb => ?_
        have e : List.drop (Int.toNat 0) (List.take i g.2) = g.2.take i := rfl
        rw [e] at hb
        cases b with
        | true => exact EvP.yes rfl (EvP.now ⟨fun h => by simp at h, fun h => absurd (hb.1 rfl) h.1.2⟩)
        | false =>
          refine EvP.no (by simp) ?_
          rw [w64 (by omega) (by omega)]
          refine (implGramOk_loop g hg n (i + 1) (by omega)).mono fun r hr => ?_
          rw [hr]
          exact ⟨fun h => ⟨⟨hok, fun h' => by have := hb.2 h'; simp at this⟩, h⟩, fun h => h.2⟩
theorem implGramOk_ev (g : GramT) : EvP (fun k => impl_GramOk k g.1 g.2) (fun r => r = true ↔ GramOkP g) := by
  refine EvP.fn (fun k => impl_GramOk_eq k _ _) (EvP.bind (implSignBig_ev _) fun b hb => ?_)
  subst hb
  cases h1 : signBig g.1 with
  | false => exact EvP.no (by simp) (EvP.now ⟨fun h => by simp at h, fun h => by rw [h.1] at h1; cases h1⟩)
  | true =>
    refine EvP.yes rfl (EvP.dec (fun h8 => EvP.now ⟨fun h => by simp at h, fun h => by have := h.2.1; omega⟩) (fun h8 => ?_))
    refine (implGramOk_loop g (by omega) g.2.length 0 (by omega)).mono fun r hr => ?_
    rw [hr]
    exact ⟨fun h => ⟨h1, by omega, fun j hj => h j (Nat.zero_le _) hj⟩, fun h j _ hj => h.2.2 j hj⟩
theorem specGramOk_loop (g : GramT) (hg : g.2.length ≤ 8) (hs : ∀ x ∈ g.2, x.2.length ≤ 1000000) : ∀ (n i : Nat), i + n = g.2.length → EvP (fun k => spec_GramOk_L58 k g (i : Int)) (fun r => r = true ↔ okFrom g.2 i)
  | 0, i, h => by
    refine EvP.fn (fun k => spec_GramOk_L58_eq k _ _) (EvP.decN (by omega) (EvP.now ?_))
    exact ⟨fun _ j h1 h2 => by omega, fun _ => rfl⟩
  | n + 1, i, h => by
    refine EvP.fn (fun k => spec_GramOk_L58_eq k _ _) (EvP.decY (by omega) (EvP.yes (by omega) (EvP.yes (by omega) ?_)))
    rw [Int.toNat_natCast, okFrom_step (by omega)]
    refine EvP.bind (specSignBig_ev _) fun b hb => ?_
    subst hb
    cases h1 : signBig (g.2.getD i ([], [])).1 with
    | false => exact EvP.no (by simp) (EvP.now ⟨fun h => by simp at h, fun h => by have := h.1.1; simp only [ruleOk, h1, Bool.false_and] at this; cases this⟩)
    | true =>
      refine EvP.yes rfl (EvP.yes (by omega) (EvP.yes (by omega) (EvP.bind (l1Right_ev _ (hs _ (getD_mem _ _ _ (by omega)))) fun b hb => ?_)))
      subst hb
      cases h2 : ((g.2.getD i ([], [])).2.all sign && decide ((g.2.getD i ([], [])).2.length ≤ 4)) with
      | false => exact EvP.no (by simp) (EvP.now ⟨fun h => by simp at h, fun h => by have := h.1.1; simp only [ruleOk, h1, h2] at this; simp at this⟩)
      | true =>
        have hok : ruleOk (g.2.getD i ([], [])) = true := by simp only [ruleOk, h1, h2, Bool.and_self]
        refine EvP.yes rfl (EvP.yes (by omega) (EvP.yes (by omega) (EvP.yes (by show (i : Int) ≤ (g.2.length : Int); omega) (EvP.yes (by omega) (EvP.yes (by omega) ?_)))))
        refine EvP.bind (place_ev _ (by simp; omega) _ _) fun b hb => ?_
        have e : List.drop (Int.toNat 0) (List.take i g.2) = g.2.take i := rfl
        rw [e] at hb
        refine EvP.dec (fun h0 => EvP.now ⟨fun h => by simp at h, fun h => absurd (hb.2 h.1.2) (by omega)⟩) (fun h0 => ?_)
        rw [w64 (by omega) (by omega)]
        refine (specGramOk_loop g hg hs n (i + 1) (by omega)).mono fun r hr => ?_
        rw [hr]
        exact ⟨fun h => ⟨⟨hok, hb.1 (by omega)⟩, h⟩, fun h => h.2⟩
theorem specGramOk_ev (g : GramT) (hs : ∀ x ∈ g.2, x.2.length ≤ 1000000) : EvP (fun k => spec_GramOk k g.1 g.2) (fun r => r = true ↔ GramOkP g) := by
  refine EvP.fn (fun k => spec_GramOk_eq k _ _) (EvP.bind (specSignBig_ev _) fun b hb => ?_)
  subst hb
  cases h1 : signBig g.1 with
  | false => exact EvP.no (by simp) (EvP.now ⟨fun h => by simp at h, fun h => by rw [h.1] at h1; cases h1⟩)
  | true =>
    refine EvP.yes rfl (EvP.dec (fun h8 => EvP.now ⟨fun h => by simp at h, fun h => by have := h.2.1; omega⟩) (fun h8 => ?_))
    refine (specGramOk_loop g (by omega) hs g.2.length 0 (by omega)).mono fun r hr => ?_
    rw [hr]
    exact ⟨fun h => ⟨h1, by omega, fun j hj => h j (Nat.zero_le _) hj⟩, fun h j _ hj => h.2.2 j hj⟩
/-! texts cut at a sign -/
def cutP (c : UInt8) : List UInt8 → List (List UInt8)
  | [] => [[]]
  | b :: t => if b = c then [] :: cutP c t else (match cutP c t with | [] => [[b]] | h :: r => (b :: h) :: r)
theorem cutP_ne (c : UInt8) : ∀ s, cutP c s ≠ []
  | [] => by simp [cutP]
  | b :: t => by
    unfold cutP
    split
    · simp
    · split <;> simp
theorem cutP_len (c : UInt8) : ∀ s, (cutP c s).length = List.count c s + 1
  | [] => rfl
  | b :: t => by
    have ih := cutP_len c t
    unfold cutP
    by_cases h : b = c
    · rw [if_pos h, List.length_cons, ih, h, List.count_cons_self]
    · rw [if_neg h, List.count_cons_of_ne (by simpa using h)]
      split
      · rename_i e; exact absurd e (cutP_ne c t)
      · rename_i e; rw [e] at ih; exact ih
theorem cutP_app (c : UInt8) : ∀ (l t : List UInt8), c ∉ l → cutP c (l ++ c :: t) = l :: cutP c t
  | [], t, _ => by rw [List.nil_append, cutP, if_pos rfl]
  | b :: l, t, h => by
    have ih := cutP_app c l t (fun h' => h (List.mem_cons_of_mem _ h'))
    have hb : ¬ b = c := fun e => h (by rw [e]; exact List.mem_cons_self ..)
    rw [List.cons_append, cutP, if_neg hb, ih]
theorem cutP_one (c : UInt8) : ∀ (l : List UInt8), c ∉ l → cutP c l = [l]
  | [], _ => rfl
  | b :: l, h => by
    have ih := cutP_one c l (fun h' => h (List.mem_cons_of_mem _ h'))
    have hb : ¬ b = c := fun e => h (by rw [e]; exact List.mem_cons_self ..)
    rw [cutP, if_neg hb, ih]
theorem idx_cases (c : UInt8) : ∀ (s : List UInt8), (c ∉ s ∧ idxE s c = -1) ∨ ∃ m : Nat, m < s.length ∧ idxE s c = (m : Int) ∧ c ∉ s.take m ∧ s = s.take m ++ c :: s.drop (m + 1)
  | [] => .inl ⟨by simp, rfl⟩
  | b :: t => by
    unfold idxE
    by_cases h : b = c
    · rw [if_pos (by simpa using h)]
      exact .inr ⟨0, by simp, rfl, by simp, by simp [h]⟩
    · rw [if_neg (by simpa using h)]
      rcases idx_cases c t with ⟨h1, h2⟩ | ⟨m, h1, h2, h3, h4⟩
      · rw [h2, if_pos (by decide)]
        exact .inl ⟨by simp [h1, Ne.symm h], rfl⟩
      · rw [h2, if_neg (by rw [beq_iff_eq]; omega)]
        refine .inr ⟨m + 1, by rw [List.length_cons]; omega, by omega, by simp [h3, Ne.symm h], ?_⟩
        rw [List.take_succ_cons, List.drop_succ_cons, List.cons_append, ← h4]
theorem index_ev (s : List UInt8) (c : UInt8) : EvP (fun k => strings_Index k s [c]) (fun r => r = idxE s c) :=
  EvP.fn (fun k => strings_Index_eq k _ _) (EvP.bind (P := fun r => r = idxE s c) (EvP.fn (fun k => stringslite_Index_eq k _ _) (EvP.yes rfl (EvP.now rfl))) fun r hr => EvP.now hr)
theorem z0 : (0 : Int).toNat = 0 := rfl
theorem splitEnd_ev (s : List UInt8) (a : List (List UInt8)) (i : Nat) (hi : i < a.length) (ha : a.length ≤ 1000000) : EvP (fun k => strings_genSplit_L1023 k s a (i : Int)) (fun r => r = a.take i ++ [s]) := by
  refine EvP.fn (fun k => strings_genSplit_L1023_eq k _ _ _) (EvP.yes (by omega) (EvP.yes (by omega) ?_))
  rw [w64 (by omega) (by omega), Int.toNat_natCast, z0, List.drop_zero]
  refine EvP.yes (by omega) (EvP.yes (by omega) (EvP.yes (by rw [List.length_set]; omega) (EvP.now ?_)))
  rw [show ((i : Int) + 1).toNat = i + 1 by omega, List.take_add_one, List.getElem?_set_self hi, List.take_set_of_le (Nat.le_refl _)]
  rfl
theorem split_loop (c : UInt8) : ∀ (n : Nat) (s : List UInt8) (a : List (List UInt8)) (i : Nat), s.length ≤ 1000000 → a.length ≤ 1000000 → List.count c s = n → i + n + 1 = a.length →
    EvP (fun k => strings_genSplit_L2044 k s [c] (0 : Int) ((a.length : Int) - 1) a (i : Int)) (fun r => r = a.take i ++ cutP c s) := by
  intro n
  induction n with
  | zero =>
    intro s a i hs ha hc h
    refine EvP.fn (fun k => strings_genSplit_L2044_eq k _ _ _ _ _ _) (EvP.decN (by omega) ((splitEnd_ev s a i (by omega) ha).mono fun r hr => ?_))
    rw [hr, cutP_one c s (List.count_eq_zero.1 hc)]
  | succ n ih =>
    intro s a i hs ha hc h
    refine EvP.fn (fun k => strings_genSplit_L2044_eq k _ _ _ _ _ _) (EvP.decY (by omega) (EvP.bind (index_ev s c) fun x hx => ?_))
    rcases idx_cases c s with ⟨h1, h2⟩ | ⟨m, h1, h2, h3, h4⟩
    · rw [List.count_eq_zero.2 h1] at hc; omega
    · rw [h2] at hx
      subst hx
      have hlen : (([c] : List UInt8).length : Int) = 1 := rfl
      rw [hlen, Int.add_zero, w64 (by omega) (by omega), w64 (by omega) (by omega), w64 (by omega) (by omega), Int.toNat_natCast, Int.toNat_natCast, Int.toNat_natCast, List.take_length, z0, List.drop_zero, show ((m : Int) + 1).toNat = m + 1 by omega]
      refine EvP.decN (by omega) (EvP.yes (by omega) (EvP.yes (by omega) (EvP.yes (by omega) (EvP.yes (by omega) (EvP.yes (by omega) (EvP.yes (by omega) (EvP.yes (by omega) (EvP.yes (by omega) ?_))))))))
      have hcount : List.count c (s.drop (m + 1)) = n := by
        have := congrArg (List.count c) h4
        rw [List.count_append, List.count_cons_self, List.count_eq_zero.2 h3, hc] at this
        omega
      have hl : (a.set i (s.take m)).length = a.length := List.length_set
      have := ih (s.drop (m + 1)) (a.set i (s.take m)) (i + 1) (by rw [List.length_drop]; omega) (by omega) hcount (by omega)
      rw [hl] at this
      refine this.mono fun r hr => ?_
      rw [hr, List.take_add_one, List.getElem?_set_self (by omega), List.take_set_of_le (Nat.le_refl _)]
      conv => rhs; rw [h4, cutP_app c _ _ h3]
      simp
theorem split_ev (s : List UInt8) (hs : s.length ≤ 900000) (c : UInt8) : EvP (fun k => strings_Split k s [c]) (fun r => r = cutP c s) := by
  have hcl : List.count c s ≤ s.length := List.count_le_length
  refine EvP.fn (fun k => strings_Split_eq k _ _) (EvP.bind (P := fun r => r = cutP c s) (EvP.fn (fun k => strings_genSplit_eq k _ _ _ _) (EvP.decN (by omega) (EvP.decN (fun h => by cases h) (EvP.decY (by omega) (EvP.bind (P := fun r => r = ((List.count c s : Nat) : Int)) (EvP.fn (fun k => strings_Count_eq k _ _) (EvP.yes rfl (EvP.now rfl))) fun n hn => ?_))))) fun r hr => EvP.now hr)
  subst hn
  refine EvP.fn (fun k => strings_genSplit_L31_eq k _ _ _ _) ?_
  rw [w64 (x := ((s.length : Int) + 1)) (by omega) (by omega), w64 (x := ((List.count c s : Nat) : Int) + 1) (by omega) (by omega)]
  have e : ifE ((s.length : Int) + 1 < ((List.count c s : Nat) : Int) + 1) ((s.length : Int) + 1) (((List.count c s : Nat) : Int) + 1) = ((List.count c s + 1 : Nat) : Int) := by
    unfold ifE; rw [if_neg (by omega)]; omega
  rw [e, Int.toNat_natCast]
  refine EvP.yes rfl (EvP.yes (by omega) (EvP.yes (by unfold maxLenE; omega) ?_))
  have hl : (List.replicate (List.count c s + 1) ([] : List UInt8)).length = List.count c s + 1 := List.length_replicate
  rw [w64 (by omega) (by omega)]
  have := split_loop c (List.count c s) s (List.replicate (List.count c s + 1) []) 0 (by omega) (by omega) rfl (by omega)
  rw [hl] at this
  exact this
theorem trimSfx_ev (s : List UInt8) (hs : s.length ≤ 900000) : EvP (fun k => strings_TrimSuffix k s [10]) (fun r => (∃ t, s = t ++ [10] ∧ r = t) ∨ ((¬ ∃ t, s = t ++ [10]) ∧ r = s)) := by
  have has : EvP (fun k => stringslite_HasSuffix k s [10]) (fun r => r = true ↔ ∃ t, s = t ++ [10]) := by
    have hlen : (([10] : List UInt8).length : Int) = 1 := rfl
    refine EvP.fn (fun k => stringslite_HasSuffix_eq k _ _) ?_
    rw [hlen, Int.toNat_natCast, List.take_length]
    refine EvP.dec (fun h => ?_) (fun h => EvP.now ⟨fun h' => absurd h' (by decide), fun ⟨t, e⟩ => by rw [e, List.length_append] at h; simp at h; omega⟩)
    rw [w64 (by omega) (by omega)]
    refine EvP.yes (by omega) (EvP.yes (by omega) (EvP.yes (by omega) (EvP.now ?_)))
    rw [decide_eq_true_iff]
    constructor
    · intro e
      exact ⟨s.take ((s.length : Int) - 1).toNat, by conv => lhs; rw [← List.take_append_drop ((s.length : Int) - 1).toNat s, e]⟩
    · rintro ⟨t, e⟩
      have : ((s.length : Int) - 1).toNat = t.length := by rw [e, List.length_append]; simp
      rw [this, e, List.drop_left]
  refine EvP.fn (fun k => strings_TrimSuffix_eq k _ _) (EvP.bind (P := fun r => (∃ t, s = t ++ [10] ∧ r = t) ∨ ((¬ ∃ t, s = t ++ [10]) ∧ r = s)) (EvP.fn (fun k => stringslite_TrimSuffix_eq k _ _) (EvP.bind has fun b hb => EvP.ite (fun h => ?_) (fun h => EvP.now (.inr ⟨fun h' => h (hb.2 h'), rfl⟩)))) fun r hr => EvP.now hr)
  obtain ⟨t, e⟩ := hb.1 h
  have hlen : (([10] : List UInt8).length : Int) = 1 := rfl
  have hsl : s.length = t.length + 1 := by rw [e, List.length_append]; rfl
  rw [hlen, w64 (by omega) (by omega), z0, List.drop_zero, show ((s.length : Int) - 1).toNat = t.length by omega]
  refine EvP.yes (by omega) (EvP.yes (by omega) (EvP.yes (by omega) (EvP.now (.inl ⟨t, e, ?_⟩))))
  rw [e, List.take_left]
def CutR (c : UInt8) (s : List UInt8) (r : List UInt8 × List UInt8 × Bool) : Prop := (c ∉ s ∧ r = (s, [], false)) ∨ (c ∉ r.1 ∧ s = r.1 ++ c :: r.2.1)
theorem cut_ev (s : List UInt8) (hs : s.length ≤ 900000) (c : UInt8) : EvP (fun k => strings_Cut k s [c]) (CutR c s) := by
  refine EvP.fn (fun k => strings_Cut_eq k _ _) (EvP.bind (P := CutR c s) (EvP.fn (fun k => stringslite_Cut_eq k _ _) (EvP.bind (P := fun r => r = idxE s c) (EvP.fn (fun k => stringslite_Index_eq k _ _) (EvP.yes rfl (EvP.now rfl))) fun x hx => ?_)) fun r hr => EvP.now hr)
  rcases idx_cases c s with ⟨h1, h2⟩ | ⟨m, h1, h2, h3, h4⟩
  · rw [h2] at hx
    subst hx
    exact EvP.decN (by omega) (EvP.now (.inl ⟨h1, rfl⟩))
  · rw [h2] at hx
    subst hx
    have hlen : (([c] : List UInt8).length : Int) = 1 := rfl
    rw [hlen, w64 (by omega) (by omega), Int.toNat_natCast, Int.toNat_natCast, List.take_length, z0, List.drop_zero, show ((m : Int) + 1).toNat = m + 1 by omega]
    exact EvP.decY (by omega) (EvP.yes (by omega) (EvP.yes (by omega) (EvP.yes (by omega) (EvP.yes (by omega) (EvP.yes (by omega) (EvP.yes (by omega) (EvP.now (.inr ⟨h3, h4⟩))))))))
theorem drop_mid (s : List UInt8) (f i : Nat) (h : f ≤ i) (hi : i ≤ s.length) : s.drop f = List.drop f (List.take i s) ++ s.drop i := by
  conv => lhs; rw [← List.take_append_drop i s]
  rw [List.drop_append_of_le_length (by rw [List.length_take]; omega)]
theorem l17Cut_ev (s : List UInt8) (hs : s.length ≤ 900000) (c : UInt8) : EvP (fun k => spec_l17Cut k s ((c.toNat : Nat) : Int)) (fun r => r = cutP c s) := by
  have loop : ∀ (n i f : Nat) (out : List (List UInt8)), i + n = s.length → f ≤ i → out.length ≤ i → c ∉ List.drop f (List.take i s) → cutP c s = out ++ cutP c (s.drop f) → EvP (fun k => spec_l17Cut_L122 k s ((c.toNat : Nat) : Int) out (f : Int) (i : Int)) (fun r => r = cutP c s) := by
    intro n
    induction n with
    | zero =>
      intro i f out h hf ho hc e
      refine EvP.fn (fun k => spec_l17Cut_L122_eq k _ _ _ _ _) (EvP.decY (by omega) (EvP.decF (fun h' => absurd (show (i : Int) = (s.length : Int) by omega) h') (fun _ => EvP.yes (by omega) (EvP.yes (by omega) (EvP.yes (by omega) ?_)))))
      rw [Int.toNat_natCast, Int.toNat_natCast, w64 (by omega) (by omega)]
      refine EvP.yes (mG (by rw [List.length_singleton]; omega)) (EvP.fn (fun k => spec_l17Cut_L122_eq k _ _ _ _ _) (EvP.decN (by omega) (EvP.now ?_)))
      rw [e, drop_mid s f i hf (by omega), List.drop_eq_nil_of_le (show s.length ≤ i by omega), List.append_nil, cutP_one c _ hc]
    | succ n ih =>
      intro i f out h hf ho hc e
      have hd := drop_mid s f i hf (by omega)
      rw [drop_cons s i 0 (by omega)] at hd
      refine EvP.fn (fun k => spec_l17Cut_L122_eq k _ _ _ _ _) (EvP.decY (by omega) (EvP.decF (fun _ => EvP.yes (by omega) (EvP.yes (by omega) ?_)) (fun h' => absurd h' (by omega))))
      rw [Int.toNat_natCast, Int.toNat_natCast, w64 (by omega) (by omega)]
      refine EvP.dec (fun h' => EvP.yes (by omega) (EvP.yes (by omega) (EvP.yes (by omega) (EvP.yes (mG (by rw [List.length_singleton]; omega)) (ih (i + 1) (i + 1) _ (by omega) (Nat.le_refl _) (by rw [List.length_append, List.length_singleton]; omega) ?_ ?_))))) (fun h' => ih (i + 1) f out (by omega) (by omega) (by omega) ?_ e)
      · rw [List.drop_eq_nil_of_le (by rw [List.length_take]; omega)]; exact List.not_mem_nil
      · have hb : s.getD i 0 = c := UInt8.toNat_inj.1 (by omega)
        rw [hb] at hd
        rw [e, hd, cutP_app c _ _ hc, List.append_assoc]; rfl
      · have hb : ¬ s.getD i 0 = c := fun e => h' (by rw [e])
        have et : List.take (i + 1) s = List.take i s ++ [s.getD i 0] := by
          rw [List.take_add_one, List.getD_eq_getElem?_getD, List.getElem?_eq_getElem (show i < s.length by omega)]; rfl
        rw [et, List.drop_append_of_le_length (by rw [List.length_take]; omega), List.mem_append, not_or, List.mem_singleton]
        exact ⟨hc, fun e => hb e.symm⟩
  exact EvP.fn (fun k => spec_l17Cut_eq k _ _) (loop s.length 0 0 [] (Nat.zero_add _) (Nat.le_refl _) (Nat.le_refl _) (by simp) (by simp))
/-! the text of a grammar -/
def lineT (r : List UInt8 × List UInt8) : List UInt8 := r.1 ++ [62] ++ r.2
def txtR (rs : List (List UInt8 × List UInt8)) : List UInt8 := rs.flatMap fun r => lineT r ++ [10]
def txt (g : GramT) : List UInt8 := g.1 ++ [10] ++ txtR g.2
theorem txtR_snoc (rs : List (List UInt8 × List UInt8)) (i : Nat) (h : i < rs.length) : txtR (rs.take (i + 1)) = txtR (rs.take i) ++ (lineT (rs.getD i ([], [])) ++ [10]) := by
  unfold txtR
  rw [List.take_add_one, List.flatMap_append, List.getD_eq_getElem?_getD, List.getElem?_eq_getElem h]
  simp
/-- A grammar's sizes. -/
def Gz (n : Nat) (g : GramT) : Prop := g.1.length ≤ n ∧ g.2.length ≤ 1000 ∧ ∀ x ∈ g.2, x.1.length ≤ n ∧ x.2.length ≤ n
theorem txtR_len {rs : List (List UInt8 × List UInt8)} {n : Nat} (h : ∀ x ∈ rs, x.1.length ≤ n ∧ x.2.length ≤ n) : (txtR rs).length ≤ rs.length * (2 * n + 2) := by
  induction rs with
  | nil => exact Nat.zero_le _
  | cons a t ih =>
    have h1 := h a (List.mem_cons_self ..)
    have h2 := ih fun x hx => h x (List.mem_cons_of_mem _ hx)
    have e : txtR (a :: t) = lineT a ++ [10] ++ txtR t := rfl
    rw [e, List.length_cons, Nat.succ_mul]
    unfold lineT
    simp only [List.length_append, List.length_singleton]
    omega
def TxP (g : GramT) (r : List UInt8) : Prop := (GramOkP g → r = txt g) ∧ (¬ GramOkP g → r = [])
theorem ok_lens {g : GramT} (h : GramOkP g) : g.1.length = 1 ∧ g.2.length ≤ 8 ∧ ∀ i, i < g.2.length → (g.2.getD i ([], [])).1.length = 1 ∧ (g.2.getD i ([], [])).2.length ≤ 4 := by
  have one : ∀ s : List UInt8, signBig s = true → s.length = 1 := fun s h => by
    match s, h with
    | [c], _ => rfl
  refine ⟨one _ h.1, h.2.1, fun i hi => ?_⟩
  have := (h.2.2 i hi).1
  simp only [ruleOk, Bool.and_eq_true, decide_eq_true_eq] at this
  exact ⟨one _ this.1, this.2.2⟩
theorem lineT_len {r : List UInt8 × List UInt8} (h : r.1.length = 1 ∧ r.2.length ≤ 4) : (lineT r).length ≤ 6 := by
  unfold lineT
  simp only [List.length_append, List.length_singleton]; omega
theorem txtR_take_len {g : GramT} (h : GramOkP g) : ∀ i, i ≤ g.2.length → (txtR (g.2.take i)).length ≤ 7 * i := by
  intro i
  induction i with
  | zero => intro _; exact Nat.zero_le _
  | succ i ih =>
    intro hi
    have := ih (by omega)
    have h2 := lineT_len ((ok_lens h).2.2 i (by omega))
    rw [txtR_snoc g.2 i (by omega), List.length_append, List.length_append, List.length_singleton]; omega
theorem implText_ev (g : GramT) : EvP (fun k => impl_GramText k g.1 g.2) (TxP g) := by
  refine EvP.fn (fun k => impl_GramText_eq k _ _) (EvP.bind (implGramOk_ev g) fun b hb => EvP.ite (fun h => EvP.now ⟨fun h' => absurd (hb.2 h') (by simpa using h), fun _ => rfl⟩) (fun h => ?_))
  have hG : GramOkP g := hb.1 (by simpa using h)
  have L := ok_lens hG
  have hn := L.2.1
  have loop : ∀ (n i : Nat), i + n = g.2.length → EvP (fun k => impl_GramText_L122 k (g.1 ++ [10] ++ txtR (g.2.take i)) g.2 (g.2.length : Int) (i : Int)) (TxP g) := by
    intro n
    induction n with
    | zero =>
      intro i h
      refine EvP.fn (fun k => impl_GramText_L122_eq k _ _ _ _) (EvP.decN (by omega) (EvP.now ⟨fun _ => ?_, fun h => absurd hG h⟩))
      rw [List.take_of_length_le (by omega)]; rfl
    | succ n ih =>
      intro i h
      have hr := L.2.2 i (by omega)
      have ht := txtR_take_len hG i (by omega)
      have h1 := L.1
      have e10 : ((ByteArray.mk #[(10 : UInt8)]).data.toList).length = 1 := rfl
      have e62 : ((ByteArray.mk #[(62 : UInt8)]).data.toList).length = 1 := rfl
      refine EvP.fn (fun k => impl_GramText_L122_eq k _ _ _ _) (EvP.decY (by omega) (EvP.yes (by omega) (EvP.yes (by omega) ?_)))
      rw [Int.toNat_natCast, w64 (by omega) (by omega)]
      refine EvP.yes (by omega) (EvP.yes (by rw [List.length_append]; omega) (EvP.yes (by simp only [List.length_append, List.length_singleton]; omega) (EvP.yes (by simp only [List.length_append, List.length_singleton]; omega) ?_)))
      have := ih (i + 1) (by omega)
      rw [txtR_snoc g.2 i (by omega), ← List.append_assoc] at this
      exact this
  refine EvP.yes (by rw [L.1]; show 1 + 1 < _; omega) ?_
  have := loop g.2.length 0 (Nat.zero_add _)
  rw [show g.1 ++ [10] ++ txtR (g.2.take 0) = g.1 ++ [10] by simp [txtR]] at this
  exact this
theorem specText_ev (g : GramT) (hs : ∀ x ∈ g.2, x.2.length ≤ 1000000) : EvP (fun k => spec_GramText k g.1 g.2) (TxP g) := by
  refine EvP.fn (fun k => spec_GramText_eq k _ _) (EvP.bind (specGramOk_ev g hs) fun b hb => EvP.ite (fun h => EvP.now ⟨fun h' => absurd (hb.2 h') (by simpa using h), fun _ => rfl⟩) (fun h => ?_))
  have hG : GramOkP g := hb.1 (by simpa using h)
  have L := ok_lens hG
  have hn := L.2.1
  have loop : ∀ (n i : Nat), i + n = g.2.length → EvP (fun k => spec_GramText_L122 k g (g.1 ++ [10] ++ txtR (g.2.take i)) (i : Int)) (TxP g) := by
    intro n
    induction n with
    | zero =>
      intro i h
      refine EvP.fn (fun k => spec_GramText_L122_eq k _ _ _) (EvP.decN (by omega) (EvP.now ⟨fun _ => ?_, fun h => absurd hG h⟩))
      rw [List.take_of_length_le (by omega)]; rfl
    | succ n ih =>
      intro i h
      have hr := L.2.2 i (by omega)
      have ht := txtR_take_len hG i (by omega)
      have h1 := L.1
      have e10 : ((ByteArray.mk #[(10 : UInt8)]).data.toList).length = 1 := rfl
      have e62 : ((ByteArray.mk #[(62 : UInt8)]).data.toList).length = 1 := rfl
      refine EvP.fn (fun k => spec_GramText_L122_eq k _ _ _) (EvP.decY (by omega) (EvP.yes (by omega) (EvP.yes (by omega) ?_)))
      rw [Int.toNat_natCast, w64 (by omega) (by omega)]
      refine EvP.yes (by simp only [List.length_append, List.length_singleton]; omega) (EvP.yes (by simp only [List.length_append, List.length_singleton]; omega) (EvP.yes (by omega) (EvP.yes (by omega) (EvP.yes (by simp only [List.length_append, List.length_singleton]; omega) (EvP.yes (by simp only [List.length_append, List.length_singleton]; omega) ?_)))))
      have := ih (i + 1) (by omega)
      rw [txtR_snoc g.2 i (by omega), show g.1 ++ [10] ++ (txtR (g.2.take i) ++ (lineT (g.2.getD i ([], [])) ++ [10])) = g.1 ++ [10] ++ txtR (g.2.take i) ++ (g.2.getD i ([], [])).1 ++ [62] ++ (g.2.getD i ([], [])).2 ++ [10] by simp [lineT]] at this
      exact this
  refine EvP.yes (by rw [L.1]; show 1 + 1 < _; omega) ?_
  have := loop g.2.length 0 (Nat.zero_add _)
  rw [show g.1 ++ [10] ++ txtR (g.2.take 0) = g.1 ++ [10] by simp [txtR]] at this
  exact this
/-! reading -/
theorem cutP_snoc (c : UInt8) : ∀ t : List UInt8, cutP c (t ++ [c]) = cutP c t ++ [[]]
  | [] => by simp [cutP]
  | b :: t => by
    have ih := cutP_snoc c t
    rw [List.cons_append, cutP, cutP]
    by_cases h : b = c
    · rw [if_pos h, if_pos h, ih]; rfl
    · rw [if_neg h, if_neg h, ih]
      cases e : cutP c t with
      | nil => exact absurd e (cutP_ne c t)
      | cons x r => rfl
theorem sign_no {s : List UInt8} (h : s.all sign = true) : (10 : UInt8) ∉ s ∧ (62 : UInt8) ∉ s := by
  rw [List.all_eq_true] at h
  exact ⟨fun h' => absurd (h _ h') (by decide), fun h' => absurd (h _ h') (by decide)⟩
theorem ok_parts {g : GramT} (h : GramOkP g) : ((10 : UInt8) ∉ g.1) ∧ ∀ r ∈ g.2, ((10 : UInt8) ∉ lineT r) ∧ ((62 : UInt8) ∉ r.1) ∧ ((62 : UInt8) ∉ r.2) := by
  have one : ∀ s : List UInt8, signBig s = true → s.all sign = true := fun s h => by
    match s, h with
    | [c], h => 
      have h : big c = true := h
      simp [sign, h]
  refine ⟨(sign_no (one _ h.1)).1, fun r hr => ?_⟩
  obtain ⟨j, hj, rfl⟩ := List.getElem_of_mem hr
  have := (h.2.2 j hj).1
  rw [List.getD_eq_getElem?_getD, List.getElem?_eq_getElem hj] at this
  simp only [ruleOk, Option.getD_some, Bool.and_eq_true, decide_eq_true_eq] at this
  have a := sign_no (one _ this.1)
  have b := sign_no this.2.1
  refine ⟨?_, a.2, b.2⟩
  unfold lineT
  simp only [List.mem_append, List.mem_singleton, not_or]
  exact ⟨⟨a.1, by decide⟩, b.1⟩
theorem cut_txtR : ∀ (rs : List (List UInt8 × List UInt8)), (∀ r ∈ rs, (10 : UInt8) ∉ lineT r) → cutP 10 (txtR rs) = rs.map lineT ++ [[]]
  | [], _ => rfl
  | r :: t, h => by
    have ih := cut_txtR t fun x hx => h x (List.mem_cons_of_mem _ hx)
    have e : txtR (r :: t) = lineT r ++ 10 :: txtR t := by show lineT r ++ [10] ++ txtR t = _; simp
    rw [e, cutP_app 10 _ _ (h r (List.mem_cons_self ..)), ih]; rfl
theorem cut_txt {g : GramT} (h : GramOkP g) : cutP 10 (txt g) = (g.1 :: g.2.map lineT) ++ [[]] := by
  have e : txt g = g.1 ++ 10 :: txtR g.2 := by unfold txt; simp
  rw [e, cutP_app 10 _ _ (ok_parts h).1, cut_txtR _ fun r hr => ((ok_parts h).2 r hr).1]; rfl
theorem cut_line {r : List UInt8 × List UInt8} (h1 : (62 : UInt8) ∉ r.1) (h2 : (62 : UInt8) ∉ r.2) : cutP 62 (lineT r) = [r.1, r.2] := by
  have e : lineT r = r.1 ++ 62 :: r.2 := by unfold lineT; simp
  rw [e, cutP_app 62 _ _ h1, cutP_one 62 _ h2]
theorem cutR_line {r : List UInt8 × List UInt8} (h1 : (62 : UInt8) ∉ r.1) {x : List UInt8 × List UInt8 × Bool} (h : CutR 62 (lineT r) x) : (x.1, x.2.1) = r := by
  have e : lineT r = r.1 ++ 62 :: r.2 := by unfold lineT; simp
  rcases h with ⟨h, _⟩ | ⟨h, h3⟩
  · exact absurd (by rw [e]; simp) h
  · have a := congrArg (cutP 62) h3
    rw [e, cutP_app 62 _ _ h1, cutP_app 62 _ _ h] at a
    have a1 := (List.cons.inj a).1
    rw [e, a1] at h3
    have a2 := List.append_cancel_left h3
    exact Prod.ext a1.symm (List.cons.inj a2).2.symm
theorem txt_trim {g : GramT} (h : GramOkP g) {t : List UInt8} (e : txt g = t ++ [10]) : cutP 10 t = g.1 :: g.2.map lineT := by
  have := cut_txt h
  rw [e, cutP_snoc] at this
  exact List.append_cancel_right this
theorem txt_end (g : GramT) : ∃ t, txt g = t ++ [10] := by
  unfold txt
  cases hr : g.2.reverse with
  | nil =>
    have : g.2 = [] := List.reverse_eq_nil_iff.1 hr
    exact ⟨g.1, by rw [this]; simp [txtR]⟩
  | cons a l =>
    have : g.2 = l.reverse ++ [a] := by rw [← List.reverse_reverse g.2, hr]; simp
    exact ⟨g.1 ++ [10] ++ (txtR l.reverse ++ lineT a), by rw [this]; simp [txtR]⟩
theorem cutP_le (c : UInt8) : ∀ (s : List UInt8), ∀ l ∈ cutP c s, l.length ≤ s.length
  | [], l, h => by simp [cutP] at h; simp [h]
  | b :: t, l, h => by
    have ih := cutP_le c t
    rw [cutP] at h
    by_cases hb : b = c
    · rw [if_pos hb] at h
      rcases List.mem_cons.1 h with h | h
      · rw [h]; simp
      · have := ih l h; rw [List.length_cons]; omega
    · rw [if_neg hb] at h
      cases e : cutP c t with
      | nil => exact absurd e (cutP_ne c t)
      | cons x r =>
        rw [e] at h ih
        rcases List.mem_cons.1 h with h | h
        · have := ih x (List.mem_cons_self ..); rw [h, List.length_cons, List.length_cons]; omega
        · have := ih l (List.mem_cons_of_mem _ h); rw [List.length_cons]; omega
def RdP (text : List UInt8) (r : GramT × Bool) : Prop := (∃ g, GramOkP g ∧ txt g = text ∧ r = (g, true)) ∨ ((¬ ∃ g, GramOkP g ∧ txt g = text) ∧ r = (([], []), false))
theorem implRead_ev (text : List UInt8) (ht : text.length ≤ 800000) : EvP (fun k => impl_GramRead k text) (RdP text) := by
  refine EvP.fn (fun k => impl_GramRead_eq k _) (EvP.bind (trimSfx_ev text (by omega)) fun x hx => ?_)
  have hxl : x.length ≤ 800000 := by
    rcases hx with ⟨t, e, rfl⟩ | ⟨_, rfl⟩
    · rw [e, List.length_append] at ht; simp at ht; omega
    · exact ht
  have H : ∀ g, GramOkP g → txt g = text → cutP 10 x = g.1 :: g.2.map lineT := fun g hg e => by
    obtain ⟨t', e'⟩ := txt_end g
    rcases hx with ⟨t, e2, rfl⟩ | ⟨h, _⟩
    · exact txt_trim hg (by rw [e, e2])
    · exact absurd ⟨t', by rw [← e, e']⟩ h
  refine EvP.bind (split_ev x (by omega) 10) fun ls hls => ?_
  subst hls
  have hlen := cutP_len 10 x
  have hcnt : List.count 10 x ≤ x.length := List.count_le_length
  have hle := cutP_le 10 x
  generalize cutP 10 x = ls at H hlen hle ⊢
  refine EvP.dec (fun h9 => EvP.now (.inr ⟨fun ⟨g, hg, e⟩ => ?_, rfl⟩)) (fun h9 => EvP.yes (by omega) (EvP.yes (by omega) (EvP.yes (by omega) (EvP.yes (by omega) (EvP.yes (by omega) ?_)))))
  · have := congrArg List.length (H g hg e)
    rw [List.length_cons, List.length_map] at this
    have := hg.2.1
    omega
  · rw [Int.toNat_natCast, List.take_length, z0, show (Int.toNat 1) = 1 from rfl]
    have hl0 : ∀ l ∈ ls.drop 1, l.length ≤ 900000 := fun l h => by have := hle l (List.mem_of_mem_drop h); omega
    have hL : ∀ g, GramOkP g → txt g = text → ls.getD 0 [] = g.1 ∧ ls.drop 1 = g.2.map lineT := fun g hg e => by rw [H g hg e]; exact ⟨rfl, rfl⟩
    have hdl : (ls.drop 1).length ≤ 1000000 := by rw [List.length_drop]; omega
    generalize ls.drop 1 = L at hl0 hL hdl ⊢
    have loop : ∀ (n i : Nat) (acc : List (List UInt8 × List UInt8)), i + n = L.length → acc.length = i → (∀ g, GramOkP g → txt g = text → acc = g.2.take i) → EvP (fun k => impl_GramRead_L250 k text ([], []) (ls.getD 0 [], acc) L (L.length : Int) (i : Int)) (RdP text) := by
      intro n
      induction n with
      | zero =>
        intro i acc h ha hg
        refine EvP.fn (fun k => impl_GramRead_L250_eq k _ _ _ _ _ _) (EvP.decN (by omega) ?_)
        have key : ∀ g, GramOkP g → txt g = text → (ls.getD 0 [], acc) = g := fun g h1 h2 => by
          have a := hL g h1 h2
          have b := congrArg List.length a.2
          rw [List.length_map] at b
          rw [a.1, hg g h1 h2, List.take_of_length_le (by omega)]
        refine EvP.bind (implGramOk_ev (ls.getD 0 [], acc)) fun b hb => EvP.ite (fun h1 => EvP.bind (implText_ev (ls.getD 0 [], acc)) fun tx htx => ?_) (fun h1 => EvP.now (.inr ⟨fun ⟨g, h2, h3⟩ => ?_, rfl⟩))
        · have hok : GramOkP (ls.getD 0 [], acc) := hb.1 (by simpa using h1)
          have htx := htx.1 hok
          exact EvP.notT (fun hne => EvP.now (.inr ⟨fun ⟨g, h2, h3⟩ => hne (by rw [htx, key g h2 h3]; exact h3), rfl⟩)) (fun he => EvP.now (.inl ⟨_, hok, by rw [← htx]; exact he, rfl⟩))
        · have := key g h2 h3
          rw [← this] at h2
          exact h1 (by rw [hb.2 h2]; rfl)
      | succ n ih =>
        intro i acc h ha hg
        refine EvP.fn (fun k => impl_GramRead_L250_eq k _ _ _ _ _ _) (EvP.decY (by omega) (EvP.yes (by omega) (EvP.yes (by omega) ?_)))
        rw [Int.toNat_natCast, w64 (by omega) (by omega)]
        refine EvP.bind (cut_ev (L.getD i []) (hl0 _ (getD_mem L i [] (by omega))) 62) fun x hx => EvP.yes (mG (by show acc.length + 1 ≤ _; omega)) (ih (i + 1) (acc ++ [(x.1, x.2.1)]) (by omega) (by rw [List.length_append, List.length_singleton]; omega) fun g h1 h2 => ?_)
        have a := (hL g h1 h2).2
        have b := congrArg List.length a
        rw [List.length_map] at b
        have hi : i < g.2.length := by omega
        have e1 : L.getD i [] = lineT (g.2.getD i ([], [])) := by rw [a, List.getD_eq_getElem?_getD, List.getElem?_map, List.getD_eq_getElem?_getD, List.getElem?_eq_getElem hi]; rfl
        rw [e1] at hx
        have e2 := cutR_line ((ok_parts h1).2 _ (getD_mem g.2 i _ hi)).2.1 hx
        rw [e2, hg g h1 h2, List.take_add_one, List.getD_eq_getElem?_getD, List.getElem?_eq_getElem hi]; rfl
    exact loop L.length 0 [] (Nat.zero_add _) rfl (fun g _ _ => rfl)
theorem specRead_ev (text : List UInt8) (ht : text.length ≤ 800000) : EvP (fun k => spec_GramRead k text) (RdP text) := by
  refine EvP.fn (fun k => spec_GramRead_eq k _) (EvP.bind (l17Cut_ev text (by omega) 10) fun ls hls => ?_)
  subst hls
  have H : ∀ g, GramOkP g → txt g = text → cutP 10 text = (g.1 :: g.2.map lineT) ++ [[]] := fun g hg e => by rw [← e]; exact cut_txt hg
  have hlen := cutP_len 10 text
  have hcnt : List.count 10 text ≤ text.length := List.count_le_length
  have hle := cutP_le 10 text
  generalize cutP 10 text = ls at H hlen hle ⊢
  refine EvP.yes (by omega) (EvP.yes (by omega) ?_)
  rw [z0]
  have fin : ∀ (acc : List (List UInt8 × List UInt8)), (∀ x ∈ acc, x.2.length ≤ 1000000) → (∀ g, GramOkP g → txt g = text → (ls.getD 0 [], acc) = g) → EvP (fun k => ifE (decide (text = (ByteArray.mk #[]).data.toList) = false) ((spec_GramText k (ls.getD 0 []) acc).bind fun x => ifE ((!decide (x = text)) = true) (some ((([] : List UInt8), ([] : List (List UInt8 × List UInt8))), false)) (some ((ls.getD 0 [], acc), true))) (some (([], []), false))) (RdP text) := fun acc hs key => by
    have no0 : ∀ g, txt g ≠ [] := fun g => by obtain ⟨t, e⟩ := txt_end g; rw [e]; simp
    refine EvP.decF (fun hne => EvP.bind (specText_ev (ls.getD 0 [], acc) hs) fun tx htx => EvP.notT (fun h1 => EvP.now (.inr ⟨fun ⟨g, h2, h3⟩ => ?_, rfl⟩)) (fun he => ?_)) (fun he => EvP.now (.inr ⟨fun ⟨g, h2, h3⟩ => no0 g (by rw [h3]; exact he), rfl⟩))
    · have e := key g h2 h3
      have := htx.1 (by rw [e]; exact h2)
      exact h1 (by rw [this, e]; exact h3)
    · by_cases hok : GramOkP (ls.getD 0 [], acc)
      · have := htx.1 hok
        exact EvP.now (.inl ⟨_, hok, by rw [← this]; exact he, rfl⟩)
      · have := htx.2 hok
        exact absurd (by rw [← he, this]) hne
  have loop : ∀ (n i : Nat) (acc : List (List UInt8 × List UInt8)), i + n = 10 → 1 ≤ i → acc.length + 1 = i → (∀ x ∈ acc, x.2.length ≤ 1000000) → (∀ g, GramOkP g → txt g = text → i ≤ g.2.length + 1 ∧ acc = g.2.take (i - 1)) → EvP (fun k => spec_GramRead_L122 k text ([], []) ls (ls.getD 0 [], acc) (i : Int)) (RdP text) := by
    intro n
    induction n with
    | zero =>
      intro i acc h h1 ha hs hg
      have key : ∀ g, GramOkP g → txt g = text → (ls.getD 0 [], acc) = g := fun g h2 h3 => by
        have a := H g h2 h3
        have b := (hg g h2 h3)
        have c := h2.2.1
        rw [b.2, List.take_of_length_le (by omega), a]; rfl
      refine EvP.fn (fun k => spec_GramRead_L122_eq k _ _ _ _ _) ?_
      rw [w64 (by omega) (by omega)]
      exact EvP.dec (fun _ => EvP.decN (by omega) (fin acc hs key)) (fun _ => fin acc hs key)
    | succ n ih =>
      intro i acc h h1 ha hs hg
      refine EvP.fn (fun k => spec_GramRead_L122_eq k _ _ _ _ _) ?_
      rw [w64 (x := (i : Int) + 1) (by omega) (by omega)]
      refine EvP.dec (fun hlt => EvP.decY (by omega) (EvP.yes (by omega) (EvP.yes (by omega) ?_))) (fun hge => fin acc hs fun g h2 h3 => ?_)
      · rw [Int.toNat_natCast]
        have hl := hle _ (getD_mem ls i [] (by omega))
        refine EvP.bind (l17Cut_ev (ls.getD i []) (by omega) 62) fun w hw => ?_
        have hwl := cutP_len 62 (ls.getD i [])
        have hwe := cutP_le 62 (ls.getD i [])
        rw [← hw] at hwl hwe
        have up : ∀ (x : List UInt8 × List UInt8), x.2.length ≤ 1000000 → (∀ g, GramOkP g → txt g = text → i < g.2.length + 1 ∧ x = g.2.getD (i - 1) ([], [])) → EvP (fun k => spec_GramRead_L15655 k text ([], []) ls (ls.getD 0 [], acc) (i : Int) x) (RdP text) := fun x hx hxg => by
          refine EvP.fn (fun k => spec_GramRead_L15655_eq k _ _ _ _ _ _) (EvP.yes (mG (by show acc.length + 1 ≤ _; omega)) ?_)
          rw [w64 (by omega) (by omega)]
          refine ih (i + 1) (acc ++ [x]) (by omega) (by omega) (by rw [List.length_append, List.length_singleton]; omega) (fun y hy => ?_) fun g h2 h3 => ?_
          · rcases List.mem_append.1 hy with hy | hy
            · exact hs y hy
            · rw [List.mem_singleton.1 hy]; exact hx
          · have b := hg g h2 h3
            have d := hxg g h2 h3
            refine ⟨by omega, ?_⟩
            obtain ⟨j, rfl⟩ : ∃ j, i = j + 1 := ⟨i - 1, by omega⟩
            rw [Nat.add_sub_cancel] at b d ⊢
            rw [b.2, d.2, List.take_add_one, List.getD_eq_getElem?_getD, List.getElem?_eq_getElem (show j < g.2.length by omega)]; rfl
        have line : ∀ g, GramOkP g → txt g = text → i < g.2.length + 1 ∧ w = [(g.2.getD (i - 1) ([], [])).1, (g.2.getD (i - 1) ([], [])).2] := fun g h2 h3 => by
          have a := H g h2 h3
          have b := congrArg List.length a
          rw [List.length_append, List.length_cons, List.length_map, List.length_singleton] at b
          have hi : i < g.2.length + 1 := by omega
          refine ⟨hi, ?_⟩
          obtain ⟨j, rfl⟩ : ∃ j, i = j + 1 := ⟨i - 1, by omega⟩
          have e1 : ls.getD (j + 1) [] = lineT (g.2.getD j ([], [])) := by
            rw [a, List.getD_eq_getElem?_getD, List.cons_append, List.getElem?_cons_succ, List.getElem?_append_left (by rw [List.length_map]; omega), List.getElem?_map, List.getD_eq_getElem?_getD, List.getElem?_eq_getElem (show j < g.2.length by omega)]; rfl
          have p := (ok_parts h2).2 _ (getD_mem g.2 j ([], []) (by omega))
          rw [hw, e1, cut_line p.2.1 p.2.2, Nat.add_sub_cancel]
        refine EvP.yes (by omega) (EvP.yes (by omega) (EvP.dec (fun h2 => EvP.yes (by omega) (EvP.yes h2 (up _ ?_ fun g h3 h4 => ?_))) (fun h2 => up _ (by show 0 ≤ _; omega) fun g h3 h4 => ?_)))
        · have := hwe _ (getD_mem w 1 [] (by omega))
          show (w.getD 1 []).length ≤ _
          omega
        · have := line g h3 h4
          exact ⟨this.1, by rw [this.2]; rfl⟩
        · have := line g h3 h4
          rw [this.2] at h2
          exact absurd (show (1 : Int) < 2 by omega) h2
      · have a := H g h2 h3
        have b := congrArg List.length a
        rw [List.length_append, List.length_cons, List.length_map, List.length_singleton] at b
        have c := hg g h2 h3
        rw [c.2, List.take_of_length_le (by omega), a]; rfl
  exact loop 9 1 [] (by omega) (by omega) rfl (fun x h => by cases h) fun g _ _ => ⟨by omega, rfl⟩
theorem torn_ev {m : Nat} {b : List Int} {p : Int} (hr : Rd (m + 4) b p) (s : List UInt8) (hs : s.length ≤ 1000) : EvP (fun k => spec_l1Torn k b p s) (fun r => r.1.length ≤ 2000) := by
  refine EvP.fn (fun k => spec_l1Torn_eq k _ _ _) (EvP.decF (fun h0 => EvP.bind (pick_ev (m := m + 3) hr (by omega) (by omega)) fun a ha => EvP.dec (fun _ => EvP.now (by show s.length ≤ 2000; omega)) (fun _ => EvP.bind (pick_ev (m := m + 2) ha.2.2 (by omega) (by omega)) fun c hc => ?_)) (fun _ => EvP.now (by show s.length ≤ 2000; omega)))
  have c0 := hc.1
  have c1 := hc.2.1
  refine EvP.yes (by omega) (EvP.yes c0 (EvP.yes (by omega) (EvP.bind (of_ev (m := m + 1) hc.2.2 _ (by simp) (by simp)) fun d hd => ?_)))
  have hdl : d.1.length ≤ 1 := by
    have := hd.1
    simp only [List.mem_cons, List.not_mem_nil, or_false] at this
    rcases this with h | h | h | h | h | h | h | h <;> rw [h] <;> decide
  rw [z0, List.drop_zero]
  refine EvP.yes (by rw [List.length_take]; omega) (EvP.bind (pick_ev (m := m) hd.2 (by omega) (by omega)) fun e he => ?_)
  have e0 := he.1
  have e1 := he.2.1
  rw [w64 (by omega) (by omega), Int.toNat_natCast, List.take_length]
  refine EvP.yes (by omega) (EvP.yes (by omega) (EvP.yes (by omega) (EvP.yes (by rw [List.length_append, List.length_take, List.length_drop]; omega) (EvP.now ?_))))
  show (List.take _ s ++ d.1 ++ List.drop _ s).length ≤ 2000
  rw [List.length_append, List.length_append, List.length_take, List.length_drop]; omega
theorem eqR_refl (l : List (List UInt8 × List UInt8)) (hl : l.length ≤ 1000) : EvP (fun k => slices_Equal_Simpl_Rule_impl_Rule k l l) (fun r => r = true) := by
  have loop : ∀ (n i : Nat), i + n = l.length → EvP (fun k => slices_Equal_Simpl_Rule_impl_Rule_L58 k l l (l.length : Int) (i : Int)) (fun r => r = true) := by
    intro n
    induction n with
    | zero => intro i h; exact EvP.fn (fun k => slices_Equal_Simpl_Rule_impl_Rule_L58_eq k _ _ _ _) (EvP.decN (by omega) (EvP.now rfl))
    | succ n ih =>
      intro i h
      refine EvP.fn (fun k => slices_Equal_Simpl_Rule_impl_Rule_L58_eq k _ _ _ _) (EvP.decY (by omega) (EvP.yes (by omega) (EvP.yes (by omega) (EvP.yes (by omega) (EvP.yes (by omega) (EvP.no (by simp) ?_))))))
      rw [w64 (by omega) (by omega)]
      exact ih (i + 1) (by omega)
  exact EvP.fn (fun k => slices_Equal_Simpl_Rule_impl_Rule_eq k _ _) (EvP.no (by simp) (loop l.length 0 (Nat.zero_add _)))
theorem gsame_refl (g : GramT) (h : g.2.length ≤ 1000) : EvP (fun k => impl_GramSame k g.1 g.2 g.1 g.2) (fun r => r = true) :=
  EvP.fn (fun k => impl_GramSame_eq k _ _ _ _) (EvP.decY rfl (EvP.bind (eqR_refl _ h) fun a ha => EvP.now ha))
theorem RdP.eq {t : List UInt8} {r r' : GramT × Bool} (h : RdP t r) (h' : RdP t r') : r = r' := by
  rcases h with ⟨g, h1, h2, h3⟩ | ⟨h1, h2⟩
  · rcases h' with ⟨g', h1', h2', h3'⟩ | ⟨h1', _⟩
    · have a := cut_txt h1
      have b := cut_txt h1'
      rw [h2, ← h2', b] at a
      have c := List.append_cancel_right a
      have d := List.cons.inj c
      have e : g'.2 = g.2 := by
        have inj : ∀ (u v : List (List UInt8 × List UInt8)), (∀ r ∈ u, (62 : UInt8) ∉ r.1 ∧ (62 : UInt8) ∉ r.2) → (∀ r ∈ v, (62 : UInt8) ∉ r.1 ∧ (62 : UInt8) ∉ r.2) → u.map lineT = v.map lineT → u = v := by
          intro u
          induction u with
          | nil => intro v _ _ h; cases v with | nil => rfl | cons _ _ => cases h
          | cons x u ih =>
            intro v hu hv h
            cases v with
            | nil => cases h
            | cons y v =>
              have hx := hu x (List.mem_cons_self ..)
              have hy := hv y (List.mem_cons_self ..)
              have hh := List.cons.inj h
              have q := congrArg (cutP 62) hh.1
              rw [cut_line hx.1 hx.2, cut_line hy.1 hy.2] at q
              have q1 := List.cons.inj q
              have q2 := List.cons.inj q1.2
              rw [show x = y from Prod.ext q1.1 q2.1, ih v (fun r hr => hu r (List.mem_cons_of_mem _ hr)) (fun r hr => hv r (List.mem_cons_of_mem _ hr)) hh.2]
        exact inj _ _ (fun r hr => ((ok_parts h1').2 r hr).2) (fun r hr => ((ok_parts h1).2 r hr).2) d.2
      rw [h3, h3', Prod.ext d.1 e]
    · exact absurd ⟨g, h1, h2⟩ h1'
  · rcases h' with ⟨g', h1', h2', _⟩ | ⟨_, h2'⟩
    · exact absurd ⟨g', h1', h2'⟩ h1
    · rw [h2, h2']
theorem tx_len {g : GramT} {r : List UInt8} (h : TxP g r) : r.length ≤ 1000 := by
  by_cases hg : GramOkP g
  · rw [h.1 hg]
    have := txtR_take_len hg g.2.length (Nat.le_refl _)
    rw [List.take_length] at this
    have h1 := (ok_lens hg).1
    have h8 := hg.2.1
    unfold txt
    rw [List.length_append, List.length_append, List.length_singleton]; omega
  · rw [h.2 hg]; show 0 ≤ 1000; omega
theorem drawG_ev (l : List Int) (h : ∀ x ∈ l, (Lit.int .u8 x).wf = true) : EvP (fun k => spec_DrawGramText k l) (fun g => ∀ x ∈ g.2, x.2.length ≤ 1000000) :=
  EvP.fn (fun k => spec_DrawGramText_eq k _) (EvP.bind (P := fun g => ∀ x ∈ g.2, x.2.length ≤ 1000000) (EvP.fn (fun k => spec_l1Draw_eq k _) (EvP.bind (open_ev l h) fun a ha => EvP.bind (gram_ev (m := 60) (ha.less (by omega))) fun g hg => EvP.bind (bentG_ev (m := 20) hg.2 8 (by omega) (by omega) g.1 (hg.1.more (by omega))) fun r hr => EvP.now fun x hx => by have := (hr.1.2.2 x hx).2; omega)) fun r hr => EvP.now hr)
theorem drawR_ev (l : List Int) (h : ∀ x ∈ l, (Lit.int .u8 x).wf = true) : EvP (fun k => spec_DrawGramRead k l) (fun s => s.length ≤ 2000) :=
  EvP.fn (fun k => spec_DrawGramRead_eq k _) (EvP.bind (open_ev l h) fun a ha => EvP.bind (gram_ev (m := 10) (ha.less (by omega))) fun g hg => EvP.bind (specText_ev g.1 fun x hx => by have := (hg.1.2.2 x hx).2; omega) fun t ht => EvP.bind (torn_ev (m := 6) hg.2 t (tx_len ht)) fun r hr => EvP.now hr)
theorem law_ev (l m : List Int) (h : ∀ x ∈ l, (Lit.int .u8 x).wf = true) (hm : ∀ x ∈ m, (Lit.int .u8 x).wf = true) : EvP (fun k => laws_FnGramText k l m) (fun r => r = true) := by
  refine EvP.fn (fun k => laws_FnGramText_eq k _ _) (EvP.decF (fun _ => EvP.dec (fun _ => EvP.now rfl) (fun _ => EvP.bind (drawG_ev l h) fun g hs => EvP.bind (implText_ev g) fun t ht => EvP.bind (implRead_ev t (by have := tx_len ht; omega)) fun r hr => EvP.bind (specText_ev g hs) fun t' ht' => ?_)) (fun _ => EvP.now rfl))
  have et : t = t' := by
    by_cases hg : GramOkP g
    · rw [ht.1 hg, ht'.1 hg]
    · rw [ht.2 hg, ht'.2 hg]
  refine EvP.notF (fun _ => EvP.bind (implGramOk_ev g) fun a ha => EvP.bind (specGramOk_ev g hs) fun b hb => EvP.notF (fun _ => EvP.bind (specGramOk_ev g hs) fun c hc => EvP.notF (fun _ => ?_) (fun hne => absurd ?_ hne)) (fun hne => absurd (Bool.eq_iff_iff.2 (ha.trans hb.symm)) hne)) (fun hne => absurd et hne)
  · have rest : EvP (fun k => (spec_DrawGramRead k m).bind fun x => (impl_GramRead k x).bind fun x_7 => (spec_GramRead k x).bind fun x_8 => ifE (decide (x_7.snd = x_8.snd) = true) ((impl_GramSame k x_7.fst.fst x_7.fst.snd x_8.fst.fst x_8.fst.snd).bind fun x_9 => ifE (x_9 = true) (ifE ((!x_7.snd) = false) ((impl_GramText k x_7.fst.fst x_7.fst.snd).bind fun x_10 => ifE (decide (x_10 = x) = true) ((impl_GramOk k x_7.fst.fst x_7.fst.snd).bind fun x => some x) (some false)) (some true)) (some false)) (some false)) (fun r => r = true) := by
      refine EvP.bind (drawR_ev m hm) fun s hsl => EvP.bind (implRead_ev s (by omega)) fun u hu => EvP.bind (specRead_ev s (by omega)) fun v hv => ?_
      have e := RdP.eq hu hv
      subst e
      have hlen : u.1.2.length ≤ 1000 := by
        rcases hu with ⟨g', h1, _, e⟩ | ⟨_, e⟩
        · rw [e]; have := h1.2.1; show g'.2.length ≤ 1000; omega
        · rw [e]; show 0 ≤ 1000; omega
      refine EvP.decY rfl (EvP.bind (gsame_refl u.1 hlen) fun w hw => EvP.yes hw (EvP.ite (fun hf => ?_) (fun _ => EvP.now rfl)))
      rcases hu with ⟨g', h1, h2, e⟩ | ⟨_, e⟩
      · have e1 : u.1 = g' := by rw [e]
        refine EvP.bind (implText_ev u.1) fun y hy => EvP.decY (by rw [hy.1 (by rw [e1]; exact h1), e1]; exact h2) (EvP.bind (implGramOk_ev u.1) fun z hz => EvP.now (hz.2 (by rw [e1]; exact h1)))
      · rw [e] at hf; exact absurd hf (by decide)
    refine EvP.ite (fun hr2 => ?_) (fun _ => rest)
    rcases hr with ⟨g', h1, h2, e⟩ | ⟨_, e⟩
    · have hg : GramOkP g := by
        by_cases hg : GramOkP g
        · exact hg
        · rw [ht.2 hg] at h2
          obtain ⟨q, hq⟩ := txt_end g'
          rw [hq] at h2
          simp at h2
      have e2 : r = (g, true) := RdP.eq (t := t) (.inl ⟨g', h1, h2, e⟩) (.inl ⟨g, hg, (ht.1 hg).symm, rfl⟩)
      rw [e2]
      exact EvP.bind (gsame_refl g (by have := hg.2.1; omega)) fun w hw => EvP.no (by rw [hw]; simp) rest
    · rw [e] at hr2; exact absurd hr2 (by decide)
  · rcases hr with ⟨g', h1, h2, e⟩ | ⟨h1, e⟩
    · have hg : GramOkP g := by
        by_cases hg : GramOkP g
        · exact hg
        · rw [ht.2 hg] at h2
          obtain ⟨q, hq⟩ := txt_end g'
          rw [hq] at h2
          simp at h2
      rw [e]; exact (hc.2 hg).symm
    · rw [e]
      have : ¬ GramOkP g := fun hg => h1 ⟨g, hg, (ht.1 hg).symm⟩
      show false = c
      cases c with
      | false => rfl
      | true => exact absurd (hc.1 rfl) this
end Go.Proofs.YtpoppblfnaipbaaDoor.Pure
