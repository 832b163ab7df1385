/- What the reader of draws answers: they answer, and within which bounds. -/
import Derived.Test.YtpoppblfnaipbaaDoorEv
import Derived.Test.YtpoppblfnaipbaaDoorEqFnItemsText
namespace Go.Proofs.YtpoppblfnaipbaaDoor.Pure
open Go Go.Proofs.YtpoppblfnaipbaaDoor.Eng Go.Proofs.YtpoppblfnaipbaaDoor.Eq Go.Proofs.YtpoppblfnaipbaaDoor.Ev
set_option autoImplicit false
set_option linter.unusedVariables false
set_option linter.unusedSimpArgs false
set_option linter.unnecessarySimpa false

def Bytes (s : List Int) : Prop := (∀ x ∈ s, 0 ≤ x ∧ x ≤ 255) ∧ s.length ≤ 2000
/-- A reader, m draws ahead. -/
def Rd (m : Nat) (b : List Int) (p : Int) : Prop := Bytes b ∧ 0 ≤ p ∧ p + m ≤ 100000000
theorem Rd.less {m n : Nat} {b : List Int} {p : Int} (h : Rd m b p) (hn : n ≤ m) : Rd n b p := ⟨h.1, h.2.1, by have := h.2.2; omega⟩

theorem open_ev (l : List Int) (h : ∀ x ∈ l, (Lit.int .u8 x).wf = true) : EvP (fun k => spec_l17Open k l) (fun r => Rd 100000000 r.1 r.2) := by
  refine EvP.fn (fun k => spec_l17Open_eq k l) (EvP.dec (fun h1 => ?_) (fun h1 => ?_))
  · refine EvP.yes (by omega) (EvP.yes (by omega) (EvP.yes (by omega) (EvP.now ⟨⟨fun x hx => wf_byte (h x ?_), ?_⟩, by simp, by simp⟩)))
    · exact List.mem_of_mem_take (List.mem_of_mem_drop hx)
    · simp; omega
  · exact EvP.now ⟨⟨fun x hx => wf_byte (h x hx), by show l.length ≤ 2000; omega⟩, by simp, by simp⟩

theorem pick_ev {m : Nat} {b : List Int} {p : Int} (hr : Rd (m + 1) b p) {n : Int} (hn : 1 ≤ n) (hn2 : n ≤ 1000000000) :
    EvP (fun k => spec_l17Rd_pick k b p n) (fun r => 0 ≤ r.1 ∧ r.1 < n ∧ Rd m r.2.1 r.2.2) := by
  obtain ⟨⟨hb, hl⟩, hp, hp2⟩ := hr
  have e1 : IntKind.i64.wrap (p + 1) = p + 1 := w64 (by omega) (by omega)
  have e2 : IntKind.i64.wrap (p + 1 - 1) = p := by rw [w64 (by omega) (by omega)]; omega
  have fin : ∀ x : Int, 0 ≤ x ∧ x < n → (0 ≤ (x, b, p + 1).1 ∧ (x, b, p + 1).1 < n ∧ Rd m (x, b, p + 1).2.1 (x, b, p + 1).2.2) := fun x h => ⟨h.1, h.2, ⟨hb, hl⟩, by show 0 ≤ p + 1; omega, by show p + 1 + m ≤ 100000000; omega⟩
  refine EvP.fn (fun k => spec_l17Rd_pick_eq k b p n) ?_
  rw [e1, e2]
  refine EvP.decF (fun _ => ?_) (fun h => absurd h (by omega))
  refine EvP.dec (fun h0 => EvP.now (fin 0 (by omega))) (fun h0 => ?_)
  refine EvP.dec (fun h1 => ?_) (fun h1 => ?_)
  · refine EvP.yes hp (EvP.yes h1 (EvP.no (by omega) (EvP.now (fin _ ?_))))
    have hx := getD_byte hb p.toNat
    rw [w64 (by omega) (by omega)]
    exact tmod_range _ n hx.1 hn
  · have hL : (1 : Int) ≤ b.length := by omega
    have t1 := tmod_range p b.length hp hL
    have e3 : IntKind.i64.wrap (p * 7) = p * 7 := w64 (by omega) (by omega)
    have e4 : IntKind.i64.wrap (p * 7 + 3) = p * 7 + 3 := w64 (by omega) (by omega)
    have t2 := tmod_range (p * 7 + 3) b.length (by omega) hL
    rw [e3, e4]
    refine EvP.no (by omega) (EvP.yes t1.1 (EvP.yes t1.2 (EvP.no (by omega) (EvP.yes t2.1 (EvP.yes t2.2 (EvP.no (by omega) (EvP.no (by omega) (EvP.now (fin _ ?_)))))))))
    generalize hA : b.getD (p.tmod b.length).toNat 0 = A
    generalize hB : b.getD ((p * 7 + 3).tmod b.length).toNat 0 = B'
    have hA' := getD_byte hb (p.tmod b.length).toNat
    have hB' := getD_byte hb ((p * 7 + 3).tmod b.length).toNat
    rw [hA] at hA'
    rw [hB] at hB'
    have hq : 0 ≤ Int.tdiv p b.length ∧ Int.tdiv p b.length ≤ p := ⟨Int.tdiv_nonneg hp (by omega), by
      rw [Int.tdiv_eq_ediv_of_nonneg hp]; exact Int.ediv_le_self _ hp⟩
    generalize Int.tdiv p b.length = Q at hq
    rw [w64 (x := A) (by omega) (by omega), w64 (x := B') (by omega) (by omega), w64 (x := A * 131) (by omega) (by omega), w64 (x := B' * 1117) (by omega) (by omega), w64 (x := p * 29) (by omega) (by omega), w64 (x := Q) (by omega) (by omega), w64 (x := Q * 53) (by omega) (by omega), w64 (x := A * 131 + B' * 1117) (by omega) (by omega), w64 (x := A * 131 + B' * 1117 + p * 29) (by omega) (by omega), w64 (x := A * 131 + B' * 1117 + p * 29 + Q * 53) (by omega) (by omega)]
    generalize hX : A * 131 + B' * 1117 + p * 29 + Q * 53 = X
    have hX1 : 0 ≤ X ∧ X ≤ 100000000000 := by omega
    have hd : 0 ≤ Int.tdiv X 64 ∧ Int.tdiv X 64 ≤ X := ⟨Int.tdiv_nonneg hX1.1 (by omega), by
      rw [Int.tdiv_eq_ediv_of_nonneg hX1.1]; exact Int.ediv_le_self _ hX1.1⟩
    generalize Int.tdiv X 64 = Y at hd
    rw [w64 (x := Y) (by omega) (by omega)]
    exact tmod_range (bxor X Y) n (xor_nonneg X Y (by omega) (by omega) (by omega) (by omega)) hn
theorem num_ev {m : Nat} {b : List Int} {p : Int} (hr : Rd (m + 1) b p) (l : List Int) (hl : 1 ≤ l.length) (hl2 : l.length ≤ 1000) :
    EvP (fun k => spec_l17Rd_num k b p l) (fun r => r.1 ∈ l ∧ Rd m r.2.1 r.2.2) := by
  refine EvP.fn (fun k => spec_l17Rd_num_eq k b p l) (EvP.bind (pick_ev hr (n := l.length) (by omega) (by omega)) fun a ha => ?_)
  exact EvP.yes ha.1 (EvP.yes ha.2.1 (EvP.now ⟨getD_mem _ _ _ (by omega), ha.2.2⟩))
theorem of_ev {m : Nat} {b : List Int} {p : Int} (hr : Rd (m + 1) b p) (l : List (List UInt8)) (hl : 1 ≤ l.length) (hl2 : l.length ≤ 1000) :
    EvP (fun k => spec_l17Rd_of k b p l) (fun r => r.1 ∈ l ∧ Rd m r.2.1 r.2.2) := by
  refine EvP.fn (fun k => spec_l17Rd_of_eq k b p l) (EvP.bind (pick_ev hr (n := l.length) (by omega) (by omega)) fun a ha => ?_)
  exact EvP.yes ha.1 (EvP.yes ha.2.1 (EvP.now ⟨getD_mem _ _ _ (by omega), ha.2.2⟩))
/-! signs -/
def small (c : UInt8) : Bool := decide (97 ≤ c.toNat) && decide (c.toNat ≤ 100)
theorem l1Small_ev (c : UInt8) : EvP (fun k => spec_l1Small k ((c.toNat : Nat) : Int)) (fun r => r = small c) := by
  refine EvP.fn (fun k => spec_l1Small_eq k _) (EvP.dec (fun h => EvP.now ?_) (fun h => EvP.now ?_))
  · have h1 : 97 ≤ c.toNat := by omega
    have e : decide ((c.toNat : Int) ≤ 100) = decide (c.toNat ≤ 100) := by congr 1; exact propext ⟨fun h => by omega, fun h => by omega⟩
    rw [e]; simp [small, h1]
  · have h1 : ¬ 97 ≤ c.toNat := by omega
    simp [small, h1]
theorem drop_cons {α : Type} (l : List α) (i : Nat) (d : α) (h : i < l.length) : l.drop i = l.getD i d :: l.drop (i + 1) := by
  rw [List.drop_eq_getElem_cons h, List.getD_eq_getElem?_getD, List.getElem?_eq_getElem h]; rfl
/-! strings.Trim -/
theorem dropWhile_all {α : Type} (p : α → Bool) : ∀ l : List α, l.dropWhile p = [] ↔ l.all p = true
  | [] => by simp
  | x :: l => by
    rw [List.dropWhile_cons]
    cases h : p x with
    | true => simp only [if_true, List.all_cons, h, Bool.true_and]; exact dropWhile_all p l
    | false => simp [h]
theorem trim_nil (s c : List UInt8) : (trimE s c = []) ↔ s.all c.contains = true := by
  unfold trimE
  rw [List.reverse_eq_nil_iff, dropWhile_all, List.all_reverse, ← dropWhile_all]
  constructor
  · intro h
    have h1 := (dropWhile_all _ _).1 h
    cases hd : s.dropWhile c.contains with
    | nil => exact (dropWhile_all _ _).1 hd
    | cons x l =>
      exfalso
      have h2 : (x :: l).dropWhile c.contains = [] := hd ▸ h
      have h3 : c.contains x = false := by
        have := List.head?_dropWhile_not c.contains s
        rw [hd] at this; simpa using this
      rw [List.dropWhile_cons, h3] at h2
      simp at h2
  · intro h
    rw [(dropWhile_all _ _).2 h]; rfl
/-! grammars drawn -/
abbrev GramT := List UInt8 × List (List UInt8 × List UInt8)
/-- At most n rules, all short. -/
def Gr (n : Nat) (g : GramT) : Prop := g.1.length ≤ 5 ∧ g.2.length ≤ n ∧ ∀ x ∈ g.2, x.1.length ≤ 5 ∧ x.2.length ≤ 5
theorem mG {n : Nat} (h : n ≤ 1000000) : n < maxLenE := by unfold maxLenE; omega
theorem Gr.more {n m : Nat} {g : GramT} (h : Gr n g) (hm : n ≤ m) : Gr m g := ⟨h.1, by have := h.2.1; omega, h.2.2⟩
theorem Gr.add {n : Nat} {g : GramT} (h : Gr n g) (x : List UInt8 × List UInt8) (hx : x.1.length ≤ 5 ∧ x.2.length ≤ 5) : Gr (n + 1) (g.1, g.2 ++ [x]) :=
  ⟨h.1, by have := h.2.1; simp; omega, fun y hy => by
    rcases List.mem_append.1 hy with hy | hy
    · exact h.2.2 y hy
    · rw [List.mem_singleton.1 hy]; exact hx⟩
theorem Gr.set {n : Nat} {g : GramT} (h : Gr n g) (i : Nat) (x : List UInt8 × List UInt8) (hx : x.1.length ≤ 5 ∧ x.2.length ≤ 5) : Gr n (g.1, g.2.set i x) :=
  ⟨h.1, by have := h.2.1; simp; omega, fun y hy => by
    rcases List.mem_or_eq_of_mem_set hy with hy | hy
    · exact h.2.2 y hy
    · rw [hy]; exact hx⟩
theorem Gr.at {n : Nat} {g : GramT} (h : Gr n g) (i : Nat) (hi : i < g.2.length) : (g.2.getD i ([], [])).1.length ≤ 5 ∧ (g.2.getD i ([], [])).2.length ≤ 5 := h.2.2 _ (getD_mem _ _ _ hi)
theorem signed_loop : ∀ (n m : Nat) {b : List Int} {p : Int} (t : List UInt8) (i N : Int), i + n = N → 0 ≤ i → N ≤ 1000 → Rd (m + n) b p → t.length ≤ i → EvP (fun k => spec_l1Signed_L58 k (b, p) N t i) (fun r => r.1.length ≤ N ∧ Rd m r.2.1 r.2.2)
  | 0, m, b, p, t, i, N, h, h0, hN, hr, ht => by
    refine EvP.fn (fun k => spec_l1Signed_L58_eq k _ _ _ _) (EvP.decN (by omega) (EvP.now ⟨by show (t.length : Int) ≤ N; omega, hr⟩))
  | n + 1, m, b, p, t, i, N, h, h0, hN, hr, ht => by
    refine EvP.fn (fun k => spec_l1Signed_L58_eq k _ _ _ _) (EvP.decY (by omega) ?_)
    refine EvP.bind (of_ev (m := m + n) (hr.less (by omega)) _ (by simp) (by simp)) fun a ha => ?_
    have hl : a.1.length = 1 := by
      have := ha.1
      simp only [List.mem_cons, List.not_mem_nil, or_false] at this
      rcases this with h | h | h | h | h | h | h | h | h <;> rw [h] <;> rfl
    refine EvP.yes (by omega) ?_
    rw [w64 (by omega) (by omega)]
    exact signed_loop n m _ (i + 1) N (by omega) (by omega) hN ha.2 (by simp [hl]; omega)
theorem signed_ev {m n : Nat} {b : List Int} {p : Int} {N : Int} (h0 : 0 ≤ N) (hN : N ≤ n) (hn : n ≤ 1000) (hr : Rd (m + n) b p) : EvP (fun k => spec_l1Signed k b p N) (fun r => r.1.length ≤ N ∧ Rd m r.2.1 r.2.2) := by
  obtain ⟨N', rfl⟩ := Int.eq_ofNat_of_zero_le h0
  exact EvP.fn (fun k => spec_l1Signed_eq k _ _ _) (signed_loop N' m [] 0 _ (by omega) (by omega) (by omega) (hr.less (by omega)) (by simp))
theorem place_loop (l : List (List UInt8 × List UInt8)) (hl : l.length ≤ 1000) (x : List UInt8 × List UInt8) : ∀ (n i : Nat), i + n = l.length → EvP (fun k => spec_l1Place_L26 k l x (i : Int)) (fun r => r < 0 ↔ x ∉ l.drop i)
  | 0, i, h => by
    refine EvP.fn (fun k => spec_l1Place_L26_eq k _ _ _) (EvP.decN (by omega) (EvP.now ?_))
    rw [List.drop_eq_nil_of_le (by omega)]
    exact ⟨fun _ h => absurd h List.not_mem_nil, fun _ => by decide⟩
  | n + 1, i, h => by
    refine EvP.fn (fun k => spec_l1Place_L26_eq k _ _ _) (EvP.decY (by omega) (EvP.yes (by omega) (EvP.yes (by omega) ?_)))
    rw [Int.toNat_natCast, drop_cons l i ([], []) (by omega)]
    refine EvP.ite (fun h' => EvP.now ?_) (fun h' => ?_)
    · simp only [Bool.and_eq_true, decide_eq_true_eq] at h'
      have e : x = l.getD i ([], []) := Prod.ext h'.1.symm h'.2.symm
      exact ⟨fun h => absurd h (by omega), fun h => absurd (e ▸ List.mem_cons_self) h⟩
    · have e : ¬ x = l.getD i ([], []) := fun e => h' (by rw [← e]; simp)
      rw [w64 (by omega) (by omega)]
      refine (place_loop l hl x n (i + 1) (by omega)).mono fun r hr => ?_
      rw [hr, List.mem_cons, not_or]
      exact ⟨fun h => ⟨e, h⟩, fun h => h.2⟩
theorem place_ev (l : List (List UInt8 × List UInt8)) (hl : l.length ≤ 1000) (x y : List UInt8) : EvP (fun k => spec_l1Place k l x y) (fun r => r < 0 ↔ (x, y) ∉ l) := by
  refine EvP.fn (fun k => spec_l1Place_eq k _ _ _) ((place_loop l hl (x, y) l.length 0 (by omega)).mono fun r hr => ?_)
  rw [hr, List.drop_zero]
theorem base_ev (n : Int) : EvP (fun k => spec_l1Base k n) (fun r => Gr 6 r) := by
  refine EvP.fn (fun k => spec_l1Base_eq k _) ?_
  refine EvP.dec (fun _ => EvP.now ?_) (fun _ => EvP.dec (fun _ => EvP.now ?_) (fun _ => EvP.dec (fun _ => EvP.now ?_) (fun _ => EvP.dec (fun _ => EvP.now ?_) (fun _ => EvP.dec (fun _ => EvP.now ?_) (fun _ => EvP.dec (fun _ => EvP.now ?_) (fun _ => EvP.dec (fun _ => EvP.now ?_) (fun _ => EvP.now ?_)))))))
  all_goals (unfold Gr; decide)
theorem gram_loop : ∀ (n m : Nat) {b : List Int} {p : Int} (x g : GramT) (q : Nat), Gr q g → q + n ≤ 100 → Rd (m + 5 * n) b p →
    EvP (fun k => spec_l1Gram_L122 k (b, p) x g (n : Int)) (fun r => Gr (q + n) r.1 ∧ Rd m r.2.1 r.2.2)
  | 0, m, b, p, x, g, q, hg, hq, hr => by
    refine EvP.fn (fun k => spec_l1Gram_L122_eq k _ _ _ _) (EvP.decN (by omega) (EvP.now ⟨hg, hr⟩))
  | n + 1, m, b, p, x, g, q, hg, hq, hr => by
    have hg2 := hg.2.1
    refine EvP.fn (fun k => spec_l1Gram_L122_eq k _ _ _ _) (EvP.decY (by omega) ?_)
    refine EvP.bind (of_ev (m := m + 5 * n + 4) (hr.less (by omega)) _ (by simp) (by simp)) fun a ha => ?_
    have hl : a.1.length = 1 := by
      have := ha.1
      simp only [List.mem_cons, List.not_mem_nil, or_false] at this
      rcases this with h | h | h | h <;> rw [h] <;> rfl
    refine EvP.bind (num_ev (m := m + 5 * n + 3) (ha.2.less (by omega)) _ (by simp) (by simp)) fun c hc => ?_
    have hcb : 0 ≤ c.1 ∧ c.1 ≤ 3 := by
      have := hc.1
      simp only [List.mem_cons, List.not_mem_nil, or_false] at this
      omega
    refine EvP.bind (signed_ev (m := m + 5 * n) (n := 3) hcb.1 (by omega) (by omega) (hc.2.less (by omega))) fun d hd => ?_
    refine EvP.bind (place_ev g.2 (by omega) a.1 d.1) fun e he => ?_
    have e1 : IntKind.i64.wrap (((n + 1 : Nat) : Int) - 1) = (n : Int) := by rw [w64 (by omega) (by have := hr.2.2; omega)]; omega
    rw [e1]
    refine EvP.dec (fun _ => EvP.yes (mG (by simp; omega)) ?_) (fun _ => ?_)
    · exact (gram_loop n m _ _ (q + 1) (hg.add (a.1, d.1) ⟨by show a.1.length ≤ 5; omega, by show d.1.length ≤ 5; omega⟩) (by omega) hd.2).mono fun r hr => ⟨hr.1.more (by omega), hr.2⟩
    · exact (gram_loop n m _ _ q hg (by omega) hd.2).mono fun r hr => ⟨hr.1.more (by omega), hr.2⟩
theorem gram_ev {m : Nat} {b : List Int} {p : Int} (hr : Rd (m + 30) b p) : EvP (fun k => spec_l1Gram k b p) (fun r => Gr 6 r.1 ∧ Rd m r.2.1 r.2.2) := by
  refine EvP.fn (fun k => spec_l1Gram_eq k _ _) (EvP.bind (pick_ev (m := m + 29) hr (by omega) (by omega)) fun a ha => EvP.dec (fun _ => ?_) (fun _ => ?_))
  · refine EvP.bind (num_ev (m := m + 28) ha.2.2 _ (by simp) (by simp)) fun c hc => EvP.bind (base_ev c.1) fun d hd => EvP.now ⟨hd, hc.2.less (by omega)⟩
  · refine EvP.bind (num_ev (m := m + 28) ha.2.2 _ (by simp) (by simp)) fun c hc => ?_
    have hcb : 0 ≤ c.1 ∧ c.1 ≤ 5 := by
      have := hc.1
      simp only [List.mem_cons, List.not_mem_nil, or_false] at this
      omega
    obtain ⟨N, hN⟩ := Int.eq_ofNat_of_zero_le hcb.1
    rw [hN]
    exact (gram_loop N m _ _ 0 ⟨by decide, by decide, by simp⟩ (by omega) (hc.2.less (by omega))).mono fun r hr => ⟨hr.1.more (by omega), hr.2⟩
theorem full_loop : ∀ (n m : Nat) {b : List Int} {p : Int} (x g : GramT) (q : Nat), Gr q g → 9 ≤ g.2.length + n → 9 ≤ q → Rd (m + 3 * n) b p →
    EvP (fun k => spec_l1Bent_L259582 k (b, p) x g) (fun r => Gr q r.1 ∧ Rd m r.2.1 r.2.2)
  | 0, m, b, p, x, g, q, hg, h, hq, hr => by
    refine EvP.fn (fun k => spec_l1Bent_L259582_eq k _ _ _) (EvP.decN (by omega) (EvP.now ⟨hg, hr⟩))
  | n + 1, m, b, p, x, g, q, hg, h, hq, hr => by
    refine EvP.fn (fun k => spec_l1Bent_L259582_eq k _ _ _) (EvP.dec (fun h8 => ?_) (fun _ => EvP.now ⟨hg, hr.less (by omega)⟩))
    refine EvP.bind (signed_ev (m := m + 3 * n) (n := 3) (by omega) (by omega) (by omega) (hr.less (by omega))) fun d hd => ?_
    refine EvP.yes (mG (by simp; omega)) ?_
    have hg8 : Gr 8 g := ⟨hg.1, by omega, hg.2.2⟩
    exact full_loop n m _ _ q ((hg8.add (_, d.1) ⟨by show 1 ≤ 5; decide, by show d.1.length ≤ 5; have := hd.1; omega⟩).more hq) (by simp; omega) hq hd.2
theorem lens {l : List (List UInt8)} {x : List UInt8} (h : x ∈ l) (hl : (l.all fun x => decide (x.length ≤ 5)) = true) : x.length ≤ 5 := of_decide_eq_true (List.all_eq_true.1 hl x h)
theorem bentG_ev {m : Nat} {b : List Int} {p : Int} (hr : Rd (m + 40) b p) (n : Nat) (hn : n ≤ 100) (h8 : 8 ≤ n) (g : GramT) (hg : Gr n g) : EvP (fun k => spec_l1Bent k b p g.1 g.2) (fun r => Gr (n + 1) r.1 ∧ Rd m r.2.1 r.2.2) := by
  have hg2 := hg.2.1
  refine EvP.fn (fun k => spec_l1Bent_eq k _ _ _ _) (EvP.yes (mG (by omega)) (EvP.bind (pick_ev (m := m + 39) hr (by omega) (by omega)) fun a ha => ?_))
  refine EvP.decF (fun _ => EvP.dec (fun _ => EvP.now ⟨hg.more (by omega), ha.2.2.less (by omega)⟩) (fun h0 => ?_)) (fun _ => EvP.now ⟨hg.more (by omega), ha.2.2.less (by omega)⟩)
  refine EvP.bind (pick_ev (m := m + 38) ha.2.2 (by omega) (by omega)) fun c hc => EvP.bind (pick_ev (m := m + 37) hc.2.2 (by omega) (by omega)) fun d hd => ?_
  have hat := hg.at c.1.toNat (by omega)
  refine EvP.dec (fun _ => ?_) (fun _ => EvP.dec (fun _ => ?_) (fun _ => EvP.dec (fun _ => ?_) (fun _ => EvP.dec (fun _ => ?_) (fun _ => ?_))))
  · exact EvP.bind (of_ev (m := m + 36) hd.2.2 _ (by simp) (by simp)) fun e he => EvP.now ⟨⟨lens he.1 (by decide), by show g.2.length ≤ n + 1; omega, hg.2.2⟩, he.2.less (by omega)⟩
  · refine EvP.bind (of_ev (m := m + 36) hd.2.2 _ (by simp) (by simp)) fun e he => ?_
    have hl := lens he.1 (by decide)
    exact EvP.yes hc.1 (EvP.yes hc.2.1 (EvP.now ⟨(hg.set _ (e.1, _) ⟨hl, hat.2⟩).more (by omega), he.2.less (by omega)⟩))
  · refine EvP.bind (of_ev (m := m + 36) hd.2.2 _ (by simp) (by simp)) fun e he => ?_
    have hl := lens he.1 (by decide)
    exact EvP.yes hc.1 (EvP.yes hc.2.1 (EvP.now ⟨(hg.set _ (_, e.1) ⟨hat.1, hl⟩).more (by omega), he.2.less (by omega)⟩))
  · exact EvP.yes hc.1 (EvP.yes hc.2.1 (EvP.yes (mG (by simp; omega)) (EvP.now ⟨hg.add _ hat, hd.2.2.less (by omega)⟩)))
  · exact (full_loop 9 m _ g (n + 1) (hg.more (by omega)) (by omega) (by omega) (hd.2.2.less (by omega)))
def signSmall (s : List UInt8) : Bool := match s with | [c] => small c | _ => false
theorem signSmall_ev (s : List UInt8) : EvP (fun k => spec_SignSmall k s) (fun r => r = signSmall s) := by
  refine EvP.fn (fun k => spec_SignSmall_eq k s) (EvP.dec (fun h => EvP.yes (by omega) (EvP.yes (by omega) (EvP.bind (l1Small_ev _) fun b hb => EvP.now ?_))) (fun h => EvP.now ?_))
  · match s, h with
    | [c], _ => exact hb
  · match s, h with
    | [], _ => rfl
    | [c], h => exact absurd rfl h
    | _ :: _ :: _, _ => rfl
theorem for_loop (s : List UInt8) (g : GramT) (hg : g.2.length ≤ 1000) : ∀ (n i : Nat) (l : List Int), i + n = g.2.length → l.length ≤ i → (∀ j ∈ l, 0 ≤ j ∧ j < g.2.length) →
    EvP (fun k => spec_l1For_L58 k s g l (i : Int)) (fun r => r.length ≤ g.2.length ∧ ∀ j ∈ r, 0 ≤ j ∧ j < g.2.length)
  | 0, i, l, h, hl, hj => by
    refine EvP.fn (fun k => spec_l1For_L58_eq k _ _ _ _) (EvP.decN (by omega) (EvP.now ⟨by omega, hj⟩))
  | n + 1, i, l, h, hl, hj => by
    refine EvP.fn (fun k => spec_l1For_L58_eq k _ _ _ _) (EvP.decY (by omega) (EvP.yes (by omega) (EvP.yes (by omega) ?_)))
    rw [w64 (by omega) (by omega)]
    refine EvP.dec (fun _ => EvP.yes (mG (by simp; omega)) ?_) (fun _ => ?_)
    · refine for_loop s _ hg n (i + 1) _ (by show i + 1 + n = g.2.length; omega) (by simp; omega) fun j hj' => ?_
      rcases List.mem_append.1 hj' with h' | h'
      · exact hj j h'
      · rw [List.mem_singleton.1 h']; constructor
        · omega
        · show (i : Int) < (g.2.length : Int); omega
    · exact for_loop s _ hg n (i + 1) _ (by show i + 1 + n = g.2.length; omega) (by omega) hj
theorem for_ev (g : GramT) (hg : g.2.length ≤ 1000) (s : List UInt8) : EvP (fun k => spec_l1For k g.1 g.2 s) (fun r => r.length ≤ g.2.length ∧ ∀ j ∈ r, 0 ≤ j ∧ j < g.2.length) :=
  EvP.fn (fun k => spec_l1For_eq k _ _ _) (for_loop s g hg g.2.length 0 [] (by omega) (by simp) (fun j h => absurd h List.not_mem_nil))
/-! grammars that are right -/
def big (c : UInt8) : Bool := decide (65 ≤ c.toNat) && decide (c.toNat ≤ 69)
def signBig (s : List UInt8) : Bool := match s with | [c] => big c | _ => false
def sign (c : UInt8) : Bool := big c || small c
def ruleOk (x : List UInt8 × List UInt8) : Bool := signBig x.1 && (x.2.all sign && decide (x.2.length ≤ 4))
def GramOkP (g : GramT) : Prop := signBig g.1 = true ∧ g.2.length ≤ 8 ∧ ∀ j, j < g.2.length → ruleOk (g.2.getD j ([], [])) = true ∧ g.2.getD j ([], []) ∉ g.2.take j
theorem l1Big_ev (c : UInt8) : EvP (fun k => spec_l1Big k ((c.toNat : Nat) : Int)) (fun r => r = big c) := by
  refine EvP.fn (fun k => spec_l1Big_eq k _) (EvP.dec (fun h => EvP.now ?_) (fun h => EvP.now ?_))
  · have h1 : 65 ≤ c.toNat := by omega
    have e : decide ((c.toNat : Int) ≤ 69) = decide (c.toNat ≤ 69) := by congr 1; exact propext ⟨fun h => by omega, fun h => by omega⟩
    rw [e]; simp [big, h1]
  · have h1 : ¬ 65 ≤ c.toNat := by omega
    simp [big, h1]
theorem specSignBig_ev (s : List UInt8) : EvP (fun k => spec_SignBig k s) (fun r => r = signBig s) := by
  refine EvP.fn (fun k => spec_SignBig_eq k s) (EvP.dec (fun h => EvP.yes (by omega) (EvP.yes (by omega) (EvP.bind (l1Big_ev _) fun b hb => EvP.now ?_))) (fun h => EvP.now ?_))
  · match s, h with
    | [c], _ => exact hb
  · match s, h with
    | [], _ => rfl
    | [c], h => exact absurd rfl h
    | _ :: _ :: _, _ => rfl
theorem isIn_ev (s : List UInt8) (lo hi : Nat) : EvP (fun k => impl_isIn k s lo hi) (fun r => r = (match s with | [c] => decide (lo ≤ c.toNat) && decide (c.toNat ≤ hi) | _ => false)) := by
  refine EvP.fn (fun k => impl_isIn_eq k s _ _) (EvP.dec (fun h => EvP.yes (by omega) (EvP.yes (by omega) (EvP.dec (fun h1 => EvP.yes (by omega) (EvP.yes (by omega) (EvP.now ?_))) (fun h1 => EvP.now ?_)))) (fun h => EvP.now ?_))
  · match s, h with
    | [c], _ =>
      have h1 : lo ≤ c.toNat := by have : (lo : Int) ≤ (c.toNat : Int) := h1; omega
      show decide ((c.toNat : Int) ≤ (hi : Int)) = _
      have e : decide ((c.toNat : Int) ≤ (hi : Int)) = decide (c.toNat ≤ hi) := by congr 1; exact propext ⟨fun h => by omega, fun h => by omega⟩
      rw [e]; simp [h1]
  · match s, h with
    | [c], _ =>
      have h1 : ¬ lo ≤ c.toNat := by have : ¬ (lo : Int) ≤ (c.toNat : Int) := h1; omega
      simp [h1]
  · match s, h with
    | [], _ => rfl
    | [c], h => exact absurd rfl h
    | _ :: _ :: _, _ => rfl
theorem implSignBig_ev (s : List UInt8) : EvP (fun k => impl_SignBig k s) (fun r => r = signBig s) :=
  EvP.fn (fun k => impl_SignBig_eq k s) (EvP.bind (isIn_ev s 65 69) fun r hr => EvP.now (by rw [hr]; rfl))
theorem implSignSmall_ev (s : List UInt8) : EvP (fun k => impl_SignSmall k s) (fun r => r = signSmall s) :=
  EvP.fn (fun k => impl_SignSmall_eq k s) (EvP.bind (isIn_ev s 97 100) fun r hr => EvP.now (by rw [hr]; rfl))
def signs : List UInt8 := [65, 66, 67, 68, 69, 97, 98, 99, 100]
set_option maxRecDepth 100000 in
theorem sign_contains (c : UInt8) : signs.contains c = sign c := by
  have key : ∀ n : Nat, n < 256 → signs.contains (UInt8.ofNat n) = sign (UInt8.ofNat n) := by decide +kernel
  have := key c.toNat (UInt8.toNat_lt c)
  rwa [UInt8.ofNat_toNat] at this
theorem areSigns_ev (s : List UInt8) : EvP (fun k => impl_areSigns k s 4) (fun r => r = (s.all sign && decide (s.length ≤ 4))) := by
  refine EvP.fn (fun k => impl_areSigns_eq k _ _) (EvP.dec (fun h => ?_) (fun h => EvP.now ?_))
  · refine EvP.bind (P := fun r => r = trimE s signs) (EvP.fn (fun k => strings_Trim_eq k _ _) (EvP.yes ⟨by omega, by decide, by decide⟩ (EvP.now rfl))) fun r hr => EvP.now ?_
    have e : (signs.contains : UInt8 → Bool) = sign := funext sign_contains
    have h4 : s.length ≤ 4 := by omega
    have := trim_nil s signs
    rw [e] at this
    rw [hr]
    show decide (trimE s signs = []) = _
    simp only [h4, decide_true, Bool.and_true]
    cases hs : s.all sign with
    | true => exact decide_eq_true (this.2 hs)
    | false => exact decide_eq_false (fun h => by rw [this.1 h] at hs; cases hs)
  · have h4 : ¬ s.length ≤ 4 := by omega
    simp [h4]
theorem l1Right_loop (s : List UInt8) (hs : s.length ≤ 1000000) : ∀ (n i : Nat), i + n = s.length → EvP (fun k => spec_l1Right_L26 k s 4 (i : Int)) (fun r => r = ((s.drop i).all sign && decide (s.length ≤ 4)))
  | 0, i, h => by
    refine EvP.fn (fun k => spec_l1Right_L26_eq k _ _ _) (EvP.decN (by omega) (EvP.now ?_))
    have e : decide ((s.length : Int) ≤ 4) = decide (s.length ≤ 4) := by congr 1; exact propext ⟨fun h => by omega, fun h => by omega⟩
    rw [e, List.drop_eq_nil_of_le (by omega)]; simp
  | n + 1, i, h => by
    refine EvP.fn (fun k => spec_l1Right_L26_eq k _ _ _) (EvP.decY (by omega) (EvP.yes (by omega) (EvP.yes (by omega) ?_)))
    rw [Int.toNat_natCast, w64 (by omega) (by omega), drop_cons s i 0 (by omega)]
    have next := l1Right_loop s hs n (i + 1) (by omega)
    refine EvP.bind (l1Big_ev _) fun b hb => ?_
    subst hb
    cases hc : big (s.getD i 0) with
    | true =>
      refine EvP.no (by simp) (next.mono fun r hr => ?_)
      have : sign (s.getD i 0) = true := by simp only [sign, hc, Bool.true_or]
      rw [hr, List.all_cons, this, Bool.true_and]
    | false =>
      refine EvP.yes rfl (EvP.yes (by omega) (EvP.yes (by omega) (EvP.bind (l1Small_ev _) fun b hb => ?_)))
      subst hb
      have e : sign (s.getD i 0) = small (s.getD i 0) := by simp only [sign, hc, Bool.false_or]
      cases hd : small (s.getD i 0) with
      | true => exact EvP.no (by simp) (next.mono fun r hr => by rw [hr, List.all_cons, e, hd, Bool.true_and])
      | false => exact EvP.yes rfl (EvP.now (by rw [List.all_cons, e, hd]; rfl))
theorem l1Right_ev (s : List UInt8) (hs : s.length ≤ 1000000) : EvP (fun k => spec_l1Right k s 4) (fun r => r = (s.all sign && decide (s.length ≤ 4))) :=
  EvP.fn (fun k => spec_l1Right_eq k _ _) ((l1Right_loop s hs s.length 0 (by omega)).mono fun r hr => by rw [hr, List.drop_zero])
theorem indexRule_loop (l : List (List UInt8 × List UInt8)) (hl : l.length ≤ 1000) (x : List UInt8 × List UInt8) : ∀ (n i : Nat), i + n = l.length → EvP (fun k => slices_Index_Simpl_Rule_impl_Rule_L26 k l x (l.length : Int) (i : Int)) (fun r => r < 0 ↔ x ∉ l.drop i)
  | 0, i, h => by
    refine EvP.fn (fun k => slices_Index_Simpl_Rule_impl_Rule_L26_eq k _ _ _ _) (EvP.decN (by omega) (EvP.now ?_))
    rw [List.drop_eq_nil_of_le (by omega)]
    exact ⟨fun _ h => absurd h List.not_mem_nil, fun _ => by decide⟩
  | n + 1, i, h => by
    refine EvP.fn (fun k => slices_Index_Simpl_Rule_impl_Rule_L26_eq k _ _ _ _) (EvP.decY (by omega) (EvP.yes (by omega) (EvP.yes (by omega) ?_)))
    rw [Int.toNat_natCast, drop_cons l i ([], []) (by omega)]
    refine EvP.ite (fun h' => EvP.now ?_) (fun h' => ?_)
    · simp only [Bool.and_eq_true, decide_eq_true_eq] at h'
      have e : x = l.getD i ([], []) := Prod.ext h'.1 h'.2
      exact ⟨fun h => absurd h (by omega), fun h => absurd (e ▸ List.mem_cons_self) h⟩
    · have e : ¬ x = l.getD i ([], []) := fun e => h' (by rw [← e]; simp)
      rw [w64 (by omega) (by omega)]
      refine (indexRule_loop l hl x n (i + 1) (by omega)).mono fun r hr => ?_
      rw [hr, List.mem_cons, not_or]
      exact ⟨fun h => ⟨e, h⟩, fun h => h.2⟩
theorem hasRule_ev (l : List (List UInt8 × List UInt8)) (hl : l.length ≤ 1000) (x y : List UInt8) : EvP (fun k => slices_Contains_Simpl_Rule_impl_Rule k l x y) (fun r => r = true ↔ (x, y) ∈ l) := by
  refine EvP.fn (fun k => slices_Contains_Simpl_Rule_impl_Rule_eq k _ _ _) (EvP.bind (P := fun r => r < 0 ↔ (x, y) ∉ l) (EvP.fn (fun k => slices_Index_Simpl_Rule_impl_Rule_eq k _ _ _) ((indexRule_loop l hl (x, y) l.length 0 (by omega)).mono fun r hr => by rw [hr, List.drop_zero])) fun r hr => EvP.now ?_)
  rw [decide_eq_true_iff]
  by_cases h : (x, y) ∈ l
  · exact ⟨fun _ => h, fun _ => by have := mt hr.1 (fun h' => h' h); omega⟩
  · exact ⟨fun h0 => absurd (hr.2 h) (by omega), fun h' => absurd h' h⟩
/-- From a place on. -/
def okFrom (l : List (List UInt8 × List UInt8)) (i : Nat) : Prop := ∀ j, i ≤ j → j < l.length → ruleOk (l.getD j ([], [])) = true ∧ l.getD j ([], []) ∉ l.take j
theorem okFrom_step {l : List (List UInt8 × List UInt8)} {i : Nat} (hi : i < l.length) : okFrom l i ↔ ((ruleOk (l.getD i ([], [])) = true ∧ l.getD i ([], []) ∉ l.take i) ∧ okFrom l (i + 1)) := by
  constructor
  · intro h; exact ⟨h i (Nat.le_refl _) hi, fun j hj hl => h j (by omega) hl⟩
  · rintro ⟨h1, h2⟩ j hj hl
    rcases Nat.eq_or_lt_of_le hj with e | e
    · rw [← e]; exact h1
    · exact h2 j e hl
theorem implGramOk_loop (g : GramT) (hg : g.2.length ≤ 8) : ∀ (n i : Nat), i + n = g.2.length → EvP (fun k => impl_GramOk_L58 k g g.2 (g.2.length : Int) (i : Int)) (fun r => r = true ↔ okFrom g.2 i)
  | 0, i, h => by
    refine EvP.fn (fun k => impl_GramOk_L58_eq k _ _ _ _) (EvP.decN (by omega) (EvP.now ?_))
    exact ⟨fun _ j h1 h2 => by omega, fun _ => rfl⟩
  | n + 1, i, h => by
    refine EvP.fn (fun k => impl_GramOk_L58_eq k _ _ _ _) (EvP.decY (by omega) (EvP.yes (by omega) (EvP.yes (by omega) ?_)))
    rw [Int.toNat_natCast, okFrom_step (by omega)]
    refine EvP.bind (implSignBig_ev _) fun b hb => ?_
    subst hb
    cases h1 : signBig (g.2.getD i ([], [])).1 with
    | false => exact EvP.no (by simp) (EvP.now ⟨fun h => by simp at h, fun h => by have := h.1.1; simp only [ruleOk, h1, Bool.false_and] at this; cases this⟩)
    | true =>
      refine EvP.yes rfl (EvP.bind (areSigns_ev _) fun b hb => ?_)
      subst hb
      cases h2 : ((g.2.getD i ([], [])).2.all sign && decide ((g.2.getD i ([], [])).2.length ≤ 4)) with
      | false => exact EvP.no (by simp) (EvP.now ⟨fun h => by simp at h, fun h => by have := h.1.1; simp only [ruleOk, h1, h2] at this; simp at this⟩)
      | true =>
        have hok : ruleOk (g.2.getD i ([], [])) = true := by simp only [ruleOk, h1, h2, Bool.and_self]
        refine EvP.yes rfl (EvP.yes (by omega) (EvP.yes (by omega) (EvP.yes (by show (i : Int) ≤ (g.2.length : Int); omega) ?_)))
        refine EvP.bind (hasRule_ev _ (by simp; omega) _ _) fun b hb => ?_
        have e : List.drop (Int.toNat 0) (List.take i g.2) = g.2.take i := rfl
        rw [e] at hb
        cases b with
        | true => exact EvP.yes rfl (EvP.now ⟨fun h => by simp at h, fun h => absurd (hb.1 rfl) h.1.2⟩)
        | false =>
          refine EvP.no (by simp) ?_
          rw [w64 (by omega) (by omega)]
          refine (implGramOk_loop g hg n (i + 1) (by omega)).mono fun r hr => ?_
          rw [hr]
          exact ⟨fun h => ⟨⟨hok, fun h' => by have := hb.2 h'; simp at this⟩, h⟩, fun h => h.2⟩
theorem implGramOk_ev (g : GramT) : EvP (fun k => impl_GramOk k g.1 g.2) (fun r => r = true ↔ GramOkP g) := by
  refine EvP.fn (fun k => impl_GramOk_eq k _ _) (EvP.bind (implSignBig_ev _) fun b hb => ?_)
  subst hb
  cases h1 : signBig g.1 with
  | false => exact EvP.no (by simp) (EvP.now ⟨fun h => by simp at h, fun h => by rw [h.1] at h1; cases h1⟩)
  | true =>
    refine EvP.yes rfl (EvP.dec (fun h8 => EvP.now ⟨fun h => by simp at h, fun h => by have := h.2.1; omega⟩) (fun h8 => ?_))
    refine (implGramOk_loop g (by omega) g.2.length 0 (by omega)).mono fun r hr => ?_
    rw [hr]
    exact ⟨fun h => ⟨h1, by omega, fun j hj => h j (Nat.zero_le _) hj⟩, fun h j _ hj => h.2.2 j hj⟩
theorem specGramOk_loop (g : GramT) (hg : g.2.length ≤ 8) (hs : ∀ x ∈ g.2, x.2.length ≤ 1000000) : ∀ (n i : Nat), i + n = g.2.length → EvP (fun k => spec_GramOk_L58 k g (i : Int)) (fun r => r = true ↔ okFrom g.2 i)
  | 0, i, h => by
    refine EvP.fn (fun k => spec_GramOk_L58_eq k _ _) (EvP.decN (by omega) (EvP.now ?_))
    exact ⟨fun _ j h1 h2 => by omega, fun _ => rfl⟩
  | n + 1, i, h => by
    refine EvP.fn (fun k => spec_GramOk_L58_eq k _ _) (EvP.decY (by omega) (EvP.yes (by omega) (EvP.yes (by omega) ?_)))
    rw [Int.toNat_natCast, okFrom_step (by omega)]
    refine EvP.bind (specSignBig_ev _) fun b hb => ?_
    subst hb
    cases h1 : signBig (g.2.getD i ([], [])).1 with
    | false => exact EvP.no (by simp) (EvP.now ⟨fun h => by simp at h, fun h => by have := h.1.1; simp only [ruleOk, h1, Bool.false_and] at this; cases this⟩)
    | true =>
      refine EvP.yes rfl (EvP.yes (by omega) (EvP.yes (by omega) (EvP.bind (l1Right_ev _ (hs _ (getD_mem _ _ _ (by omega)))) fun b hb => ?_)))
      subst hb
      cases h2 : ((g.2.getD i ([], [])).2.all sign && decide ((g.2.getD i ([], [])).2.length ≤ 4)) with
      | false => exact EvP.no (by simp) (EvP.now ⟨fun h => by simp at h, fun h => by have := h.1.1; simp only [ruleOk, h1, h2] at this; simp at this⟩)
      | true =>
        have hok : ruleOk (g.2.getD i ([], [])) = true := by simp only [ruleOk, h1, h2, Bool.and_self]
        refine EvP.yes rfl (EvP.yes (by omega) (EvP.yes (by omega) (EvP.yes (by show (i : Int) ≤ (g.2.length : Int); omega) (EvP.yes (by omega) (EvP.yes (by omega) ?_)))))
        refine EvP.bind (place_ev _ (by simp; omega) _ _) fun b hb => ?_
        have e : List.drop (Int.toNat 0) (List.take i g.2) = g.2.take i := rfl
        rw [e] at hb
        refine EvP.dec (fun h0 => EvP.now ⟨fun h => by simp at h, fun h => absurd (hb.2 h.1.2) (by omega)⟩) (fun h0 => ?_)
        rw [w64 (by omega) (by omega)]
        refine (specGramOk_loop g hg hs n (i + 1) (by omega)).mono fun r hr => ?_
        rw [hr]
        exact ⟨fun h => ⟨⟨hok, hb.1 (by omega)⟩, h⟩, fun h => h.2⟩
theorem specGramOk_ev (g : GramT) (hs : ∀ x ∈ g.2, x.2.length ≤ 1000000) : EvP (fun k => spec_GramOk k g.1 g.2) (fun r => r = true ↔ GramOkP g) := by
  refine EvP.fn (fun k => spec_GramOk_eq k _ _) (EvP.bind (specSignBig_ev _) fun b hb => ?_)
  subst hb
  cases h1 : signBig g.1 with
  | false => exact EvP.no (by simp) (EvP.now ⟨fun h => by simp at h, fun h => by rw [h.1] at h1; cases h1⟩)
  | true =>
    refine EvP.yes rfl (EvP.dec (fun h8 => EvP.now ⟨fun h => by simp at h, fun h => by have := h.2.1; omega⟩) (fun h8 => ?_))
    refine (specGramOk_loop g (by omega) hs g.2.length 0 (by omega)).mono fun r hr => ?_
    rw [hr]
    exact ⟨fun h => ⟨h1, by omega, fun j hj => h j (Nat.zero_le _) hj⟩, fun h j _ hj => h.2.2 j hj⟩
/-! sets of signs: strings in order -/
def Inc (s : List UInt8) : Prop := s.Pairwise fun a b => a.toNat < b.toNat
theorem ltM {a : Nat} (h : a ≤ 1000000) : a < maxLenE := by unfold maxLenE; omega
theorem one_sg (l : List UInt8) (i : Nat) (hi : i < l.length) : List.drop i (List.take (i + 1) l) = [l.getD i 0] := by
  rw [List.take_add_one, List.drop_append_of_le_length (by rw [List.length_take]; omega), List.drop_eq_nil_of_le (by rw [List.length_take]; omega), List.getD_eq_getElem?_getD, List.getElem?_eq_getElem hi]; rfl
theorem inc_len {α : Type} (f : α → Nat) (N : Nat) : ∀ (l : List α) (lo : Nat), l.Pairwise (fun a b => f a < f b) → (∀ x ∈ l, lo ≤ f x ∧ f x < N) → lo ≤ N → l.length + lo ≤ N
  | [], lo, _, _, h => by simpa using h
  | x :: t, lo, hp, hr, h => by
    rw [List.pairwise_cons] at hp
    have hx := hr x (List.mem_cons_self ..)
    have := inc_len f N t (f x + 1) hp.2 (fun y hy => ⟨hp.1 y hy, (hr y (List.mem_cons_of_mem _ hy)).2⟩) (by omega)
    rw [List.length_cons]; omega
theorem Inc.le {s : List UInt8} (h : Inc s) : s.length ≤ 256 := inc_len UInt8.toNat 256 s 0 h (fun x _ => ⟨Nat.zero_le _, x.toNat_lt⟩) (Nat.zero_le _)
theorem ins_ok {α : Type} (f : α → Nat) {l : List α} (hi : l.Pairwise fun a b => f a < f b) {t : Nat} {c : α} (h1 : ∀ d ∈ l.take t, f d < f c) (h2 : ∀ d ∈ l.drop t, f c < f d) : (l.take t ++ [c] ++ l.drop t).Pairwise fun a b => f a < f b := by
  rw [List.pairwise_append, List.pairwise_append]
  refine ⟨⟨hi.sublist (List.take_sublist ..), List.pairwise_singleton _ _, fun a ha b hb => by rw [List.mem_singleton.1 hb]; exact h1 a ha⟩, hi.sublist (List.drop_sublist ..), fun a ha b hb => ?_⟩
  rcases List.mem_append.1 ha with h | h
  · exact Nat.lt_trans (h1 a h) (h2 b hb)
  · rw [List.mem_singleton.1 h]; exact h2 b hb
theorem drop_up {α : Type} (f : α → Nat) (d0 : α) {l : List α} (hi : l.Pairwise fun a b => f a < f b) {t : Nat} (ht : t < l.length) {v : Nat} (h : v < f (l.getD t d0)) : ∀ d ∈ l.drop t, v < f d := by
  intro d hd
  have hp := hi.sublist (List.drop_sublist t l)
  rw [drop_cons l t d0 ht] at hd hp
  rw [List.pairwise_cons] at hp
  rcases List.mem_cons.1 hd with e | hd
  · rw [e]; exact h
  · exact Nat.lt_trans h (hp.1 d hd)
theorem take_up {α : Type} (P : α → Prop) (d0 : α) {l : List α} {t : Nat} (ht : t < l.length) (h : ∀ d ∈ l.take t, P d) (hc : P (l.getD t d0)) : ∀ d ∈ l.take (t + 1), P d := by
  intro d hd
  rw [List.take_add_one, List.getElem?_eq_getElem ht] at hd
  rw [List.getD_eq_getElem?_getD, List.getElem?_eq_getElem ht] at hc
  rcases List.mem_append.1 hd with hd | hd
  · exact h d hd
  · have : d = l[t] := by simpa using hd
    rw [this]; exact hc
theorem mem_ins {α : Type} (l : List α) (t : Nat) (c d : α) : d ∈ l.take t ++ [c] ++ l.drop t ↔ (d = c ∨ d ∈ l) := by
  have : d ∈ l ↔ d ∈ l.take t ∨ d ∈ l.drop t := by
    conv => lhs; rw [← List.take_append_drop t l]
    exact List.mem_append
  rw [this]
  simp only [List.mem_append, List.mem_singleton]
  constructor
  · rintro ((h | h) | h)
    · exact .inr (.inl h)
    · exact .inl h
    · exact .inr (.inr h)
  · rintro (h | h | h)
    · exact .inl (.inr h)
    · exact .inl (.inl h)
    · exact .inr h
theorem len_ins {α : Type} (l : List α) (t : Nat) (c : α) : (l.take t ++ [c] ++ l.drop t).length = l.length + 1 := by
  simp only [List.length_append, List.length_take, List.length_drop, List.length_singleton]; omega
def Added (l : List UInt8) (c : UInt8) (r : List UInt8) : Prop := Inc r ∧ (∀ d, d ∈ r ↔ (d = c ∨ d ∈ l)) ∧ (c ∈ l ∧ r = l ∨ r.length = l.length + 1)
theorem setAdd_ev (l : List UInt8) (hi : Inc l) (c : UInt8) : EvP (fun k => spec_l1Add k l ((c.toNat : Nat) : Int)) (Added l c) := by
  have hl := hi.le
  have eo : ofBytes [((c.toNat : Nat) : Int)] = [c] := by
    show [UInt8.ofNat (((c.toNat : Nat) : Int)).toNat] = [c]
    rw [Int.toNat_natCast]; simp
  have z : (0 : Int).toNat = 0 := rfl
  have fin : ∀ t, (∀ d ∈ l.take t, d.toNat < c.toNat) → (∀ d ∈ l.drop t, c.toNat < d.toNat) → Added l c (l.take t ++ [c] ++ l.drop t) := fun t h1 h2 => ⟨ins_ok UInt8.toNat hi h1 h2, mem_ins l t c, .inr (len_ins l t c)⟩
  have loop : ∀ (q t : Nat), t + q = l.length → (∀ d ∈ l.take t, d.toNat < c.toNat) → EvP (fun k => spec_l1Add_L28 k l ((c.toNat : Nat) : Int) (t : Int)) (Added l c) := by
    intro q
    induction q with
    | zero =>
      intro t ht hd
      refine EvP.fn (fun k => spec_l1Add_L28_eq k _ _ _) (EvP.decN (by omega) (EvP.decN (by omega) (EvP.yes (by omega) (EvP.yes (by omega) (EvP.yes (by omega) ?_)))))
      rw [eo, Int.toNat_natCast, Int.toNat_natCast, List.take_length, z, List.drop_zero]
      refine EvP.yes (by rw [List.length_take]; show _ + 1 < _; omega) (EvP.yes (by omega) (EvP.yes (by omega) (EvP.yes (by omega) (EvP.yes (by rw [List.length_append, List.length_take, List.length_drop]; show _ + 1 + _ < _; omega) (EvP.now (fin t hd fun d h => ?_))))))
      rw [List.drop_eq_nil_of_le (by omega)] at h; cases h
    | succ q ih =>
      intro t ht hd
      refine EvP.fn (fun k => spec_l1Add_L28_eq k _ _ _) (EvP.decY (by omega) (EvP.yes (by omega) (EvP.yes (by omega) ?_)))
      refine EvP.dec (fun h => ?_) (fun h => EvP.decY (by omega) (EvP.yes (by omega) (EvP.yes (by omega) (EvP.dec (fun h2 => EvP.now ?_) (fun h2 => EvP.yes (by omega) (EvP.yes (by omega) (EvP.yes (by omega) ?_)))))))
      · rw [w64 (by omega) (by omega)]
        rw [Int.toNat_natCast] at h
        exact ih (t + 1) (by omega) (take_up (fun d : UInt8 => d.toNat < c.toNat) 0 (by omega) hd (by omega))
      · rw [Int.toNat_natCast] at h2
        have : l.getD t 0 = c := UInt8.toNat_inj.1 (by omega)
        have hm : c ∈ l := by
          rw [← this]
          exact getD_mem l t 0 (by omega)
        exact ⟨hi, fun d => ⟨.inr, fun h => h.elim (fun e => by rw [e]; exact hm) id⟩, .inl ⟨hm, rfl⟩⟩
      · rw [Int.toNat_natCast] at h h2
        rw [eo, Int.toNat_natCast, Int.toNat_natCast, List.take_length, z, List.drop_zero]
        refine EvP.yes (by rw [List.length_take]; show _ + 1 < _; omega) (EvP.yes (by omega) (EvP.yes (by omega) (EvP.yes (by omega) (EvP.yes (by rw [List.length_append, List.length_take, List.length_drop]; show _ + 1 + _ < _; omega) (EvP.now (fin t hd (drop_up UInt8.toNat 0 hi (by omega) (by omega))))))))
  exact EvP.fn (fun k => spec_l1Add_eq k _ _) (loop l.length 0 (Nat.zero_add _) (fun d h => by cases h))
theorem setIn_ev (l : List UInt8) (hl : l.length ≤ 1000000) (c : UInt8) : EvP (fun k => spec_l1In k l ((c.toNat : Nat) : Int)) (fun r => r = l.contains c) := by
  have loop : ∀ (q t : Nat), t + q = l.length → EvP (fun k => spec_l1In_L26 k l ((c.toNat : Nat) : Int) (t : Int)) (fun r => r = (l.drop t).contains c) := by
    intro q
    induction q with
    | zero =>
      intro t ht
      refine EvP.fn (fun k => spec_l1In_L26_eq k _ _ _) (EvP.decN (by omega) (EvP.now ?_))
      rw [List.drop_eq_nil_of_le (by omega)]; rfl
    | succ q ih =>
      intro t ht
      refine EvP.fn (fun k => spec_l1In_L26_eq k _ _ _) (EvP.decY (by omega) (EvP.yes (by omega) (EvP.yes (by omega) ?_)))
      rw [Int.toNat_natCast, w64 (by omega) (by omega), drop_cons l t 0 (by omega)]
      refine EvP.dec (fun h => EvP.now ?_) (fun h => (ih (t + 1) (by omega)).mono fun r hr => ?_)
      · have : l.getD t 0 = c := UInt8.toNat_inj.1 (by omega)
        rw [this]; simp
      · have : ¬ c = l.getD t 0 := fun e => h (by rw [e])
        have e : (c == l.getD t 0) = false := by simpa using this
        rw [hr, List.contains_cons, e, Bool.false_or]
  exact EvP.fn (fun k => spec_l1In_eq k _ _) (loop l.length 0 (Nat.zero_add _))
theorem setAll_loop (q set : List UInt8) (hq : q.length ≤ 1000000) (hset : set.length ≤ 1000000) : ∀ (m t : Nat), t + m = q.length → EvP (fun k => spec_l2All_L26 k q set false (t : Int)) (fun r => True) := by
  intro m
  induction m with
  | zero =>
    intro t ht
    exact EvP.fn (fun k => spec_l2All_L26_eq k _ _ _ _) (EvP.decN (by omega) (EvP.now trivial))
  | succ m ih =>
    intro t ht
    have y : (t : Int) < (q.length : Int) := by omega
    refine EvP.fn (fun k => spec_l2All_L26_eq k _ _ _ _) (EvP.decY y (EvP.yes (by omega) (EvP.yes y ?_)))
    rw [Int.toNat_natCast, w64 (by omega) (by omega)]
    refine EvP.bind (setIn_ev set hset _) fun b hb => ?_
    exact EvP.ite (fun _ => EvP.no (by simp) (EvP.now trivial)) (fun _ => ih (t + 1) (by omega))
theorem setAll_ev (q set : List UInt8) (hq : q.length ≤ 1000000) (hset : set.length ≤ 1000000) : EvP (fun k => spec_l2All k q set false) (fun r => True) :=
  EvP.fn (fun k => spec_l2All_eq k _ _ _) (setAll_loop q set hq hset q.length 0 (Nat.zero_add _))
theorem setAll'_ev (q set : List UInt8) (hq : q.length ≤ 1000000) (hset : set.length ≤ 1000000) : EvP (fun k => spec_l2All' k q set) (fun r => True) :=
  EvP.fn (fun k => spec_l2All'_eq k _ _) (setAll_loop q set hq hset q.length 0 (Nat.zero_add _))
/-- A grammar that is right, seen from its parts. -/
def GFine (g : GramT) : Prop := (∃ c, g.1 = [c] ∧ big c = true) ∧ g.2.length ≤ 8 ∧ ∀ x ∈ g.2, (∃ c, x.1 = [c] ∧ big c = true) ∧ x.2.length ≤ 4 ∧ x.2.all sign = true
theorem one_big {s : List UInt8} (h : signBig s = true) : ∃ c, s = [c] ∧ big c = true := by
  match s, h with
  | [c], h => exact ⟨c, rfl, h⟩
theorem GFine.of {g : GramT} (h : GramOkP g) : GFine g := by
  refine ⟨one_big h.1, h.2.1, fun x hx => ?_⟩
  obtain ⟨j, hj, rfl⟩ := List.getElem_of_mem hx
  have := (h.2.2 j hj).1
  rw [List.getD_eq_getElem?_getD, List.getElem?_eq_getElem hj] at this
  simp only [ruleOk, Option.getD_some, Bool.and_eq_true, decide_eq_true_eq] at this
  exact ⟨one_big this.1, this.2.2, this.2.1⟩
theorem GFine.at {g : GramT} (h : GFine g) {i : Nat} (hi : i < g.2.length) : (∃ c, (g.2.getD i ([], [])).1 = [c] ∧ big c = true) ∧ (g.2.getD i ([], [])).2.length ≤ 4 ∧ (g.2.getD i ([], [])).2.all sign = true := h.2.2 _ (getD_mem _ _ _ hi)
theorem setGrow_ev (g : GramT) (hg : GFine g) : EvP (fun k => spec_l2Grow k g.1 g.2) Inc := by
  have hn := hg.2.1
  have loop : ∀ (m : Nat) (out : List UInt8), Inc out → 256 ≤ out.length + m → ∀ (n i : Nat), i + n = g.2.length → EvP (fun k => spec_l2Grow_L58 k false g out (i : Int)) Inc := by
    intro m
    induction m with
    | zero => ?_
    | succ m ihm => ?_
    all_goals
      intro out hi hm n
      have hl := hi.le
      induction n with
      | zero => intro i h; exact EvP.fn (fun k => spec_l2Grow_L58_eq k _ _ _ _) (EvP.decN (by omega) (EvP.now hi))
      | succ n ihn =>
        intro i h
        obtain ⟨⟨c, hc, hb⟩, h4, hs⟩ := hg.at (i := i) (by omega)
        have e1 : List.getD (g.2.getD i ([], [])).1 (Int.toNat 0) 0 = c := by rw [hc]; rfl
        have ep : IntKind.i64.wrap ((-1 : Int) + 1) = ((0 : Nat) : Int) := w64 (by omega) (by omega)
        have y : (0 : Int) < ((List.length (g.2.getD i ([], [])).1 : Nat) : Int) := by rw [hc]; show (0 : Int) < 1; omega
        have ei : ((i : Int) + 1) = ((i + 1 : Nat) : Int) := by omega
        refine EvP.fn (fun k => spec_l2Grow_L58_eq k _ _ _ _) (EvP.decY (by omega) (EvP.yes (by omega) (EvP.yes (by omega) (EvP.yes (by omega) ?_))))
        rw [Int.toNat_natCast, e1, w64 (x := (i : Int) + 1) (by omega) (by omega), ep, ei]
        refine EvP.yes y (EvP.bind (setIn_ev out (by omega) c) fun b hb' => ?_)
        subst hb'
        refine EvP.ite (fun hno => EvP.bind (setAll_ev _ out (by omega) (by omega)) fun a ha => ?_) (fun hyes => ihn (i + 1) (by omega))
        have hno : c ∉ out := by simpa using hno
        refine EvP.ite (fun hall => EvP.yes (by omega) (EvP.yes y (EvP.bind (setAdd_ev out hi c) fun r hr => ?_))) (fun _ => ihn (i + 1) (by omega))
        have hr2 : r.length = out.length + 1 := hr.2.2.elim (fun h => absurd h.1 hno) id
        have := hr.1.le
        first
          | (exfalso; omega)
          | exact ihm r hr.1 (by omega) g.2.length 0 (Nat.zero_add _)
  exact EvP.fn (fun k => spec_l2Grow_eq k _ _) (loop 256 [] List.Pairwise.nil (by simp) g.2.length 0 (Nat.zero_add _))
theorem setJoin_ev (b : List UInt8) (hb : b.length ≤ 1000) (a : List UInt8) (ha : Inc a) : EvP (fun k => spec_l2Join k a b) (fun r => Inc r ∧ (r = a ∨ a.length < r.length)) := by
  have loop : ∀ (n i : Nat) (r : List UInt8), i + n = b.length → Inc r → (r = a ∨ a.length < r.length) → EvP (fun k => spec_l2Join_L26 k r b (i : Int)) (fun r => Inc r ∧ (r = a ∨ a.length < r.length)) := by
    intro n
    induction n with
    | zero => intro i r h hr h2; exact EvP.fn (fun k => spec_l2Join_L26_eq k _ _ _) (EvP.decN (by omega) (EvP.now ⟨hr, h2⟩))
    | succ n ih =>
      intro i r h hr h2
      refine EvP.fn (fun k => spec_l2Join_L26_eq k _ _ _) (EvP.decY (by omega) (EvP.yes (by omega) (EvP.yes (by omega) ?_)))
      rw [Int.toNat_natCast, w64 (by omega) (by omega)]
      refine EvP.bind (setAdd_ev r hr _) fun s hs => ih (i + 1) s (by omega) hs.1 ?_
      rcases hs.2.2 with h3 | h3
      · rw [h3.2]; exact h2
      · rcases h2 with h2 | h2
        · right; rw [h3, h2]; omega
        · right; omega
  exact EvP.fn (fun k => spec_l2Join_eq k _ _) (loop b.length 0 a (Nat.zero_add _) ha (.inl rfl))
theorem big65 {c : UInt8} (h : big c = true) : 65 ≤ c.toNat ∧ c.toNat ≤ 69 := by
  unfold big at h
  simpa only [Bool.and_eq_true, decide_eq_true_eq] using h
theorem w65 {c : UInt8} (h : big c = true) : IntKind.i64.wrap (IntKind.u8.wrap ((c.toNat : Int) - 65)) = ((c.toNat - 65 : Nat) : Int) := by
  have := big65 h
  rw [w8 (by omega) (by omega), w64 (by omega) (by omega)]
  omega
def Fst (fs : List (List UInt8)) : Prop := fs.length = 5 ∧ ∀ x ∈ fs, Inc x
theorem Fst.at {fs : List (List UInt8)} (h : Fst fs) (i : Nat) (hi : i < 5) : Inc (fs.getD i []) := h.2 _ (getD_mem _ _ _ (by rw [h.1]; exact hi))
theorem setFirst_ev (fs : List (List UInt8)) (hf : Fst fs) (none' : List UInt8) (hn : none'.length ≤ 1000) (q : List UInt8) (hq : q.length ≤ 1000) (hs : q.all sign = true) : EvP (fun k => spec_l2First k fs none' q) Inc := by
  have h5 := hf.1
  have loop : ∀ (n i : Nat) (r : List UInt8), i + n = q.length → Inc r → EvP (fun k => spec_l2First_L58 k fs none' q r (i : Int)) Inc := by
    intro n
    induction n with
    | zero => intro i r h hr; exact EvP.fn (fun k => spec_l2First_L58_eq k _ _ _ _ _) (EvP.decN (by omega) (EvP.now hr))
    | succ n ih =>
      intro i r h hr
      have y : (i : Int) < (q.length : Int) := by omega
      refine EvP.fn (fun k => spec_l2First_L58_eq k _ _ _ _ _) (EvP.decY y (EvP.yes (by omega) (EvP.yes y ?_)))
      rw [Int.toNat_natCast, w64 (x := (i : Int) + 1) (by omega) (by omega)]
      have hsg := List.all_eq_true.1 hs _ (getD_mem q i 0 (by omega))
      generalize q.getD i 0 = c at hsg ⊢
      refine EvP.bind (l1Small_ev c) fun b hb => ?_
      subst hb
      refine EvP.ite (fun h1 => EvP.yes (by omega) (EvP.yes y (EvP.bind (setAdd_ev r hr c) fun s hs' => EvP.now hs'.1))) (fun h1 => EvP.yes (by omega) (EvP.yes y ?_))
      have hb : big c = true := by
        unfold sign at hsg
        rw [Bool.or_eq_true] at hsg
        exact hsg.elim id (fun h => absurd h h1)
      have h6 := big65 hb
      rw [w65 hb]
      refine EvP.yes (by omega) (EvP.yes (by rw [h5]; omega) ?_)
      rw [Int.toNat_natCast]
      have hF := hf.at (c.toNat - 65) (by omega)
      refine EvP.bind (setJoin_ev _ (by have := hF.le; omega) r hr) fun s hs' => EvP.yes (by omega) (EvP.yes y (EvP.bind (setIn_ev none' (by omega) c) fun b hb' => ?_))
      exact EvP.ite (fun _ => EvP.now hs'.1) (fun _ => ih (i + 1) s (by omega) hs'.1)
  exact EvP.fn (fun k => spec_l2First_eq k _ _ _) (loop q.length 0 [] (Nat.zero_add _) List.Pairwise.nil)
def tot (fs : List (List UInt8)) : Nat := (fs.map List.length).sum
theorem tot_set : ∀ (fs : List (List UInt8)) (k : Nat) (x : List UInt8), k < fs.length → tot (fs.set k x) + (fs.getD k []).length = tot fs + x.length
  | a :: t, 0, x, _ => by
    show x.length + tot t + a.length = (a.length + tot t) + x.length; omega
  | a :: t, k + 1, x, h => by
    have := tot_set t k x (by simpa using h)
    show a.length + tot (t.set k x) + (t.getD k []).length = (a.length + tot t) + x.length; omega
theorem tot_le : ∀ (fs : List (List UInt8)), (∀ x ∈ fs, Inc x) → tot fs ≤ 256 * fs.length
  | [], _ => Nat.le_refl _
  | a :: t, h => by
    have h1 := (h a (List.mem_cons_self ..)).le
    have h2 := tot_le t fun x hx => h x (List.mem_cons_of_mem _ hx)
    rw [List.length_cons]
    show a.length + tot t ≤ _; omega
theorem Fst.le {fs : List (List UInt8)} (h : Fst fs) : tot fs ≤ 1280 := by have := tot_le fs h.2; rw [h.1] at this; omega
theorem Fst.set {fs : List (List UInt8)} (h : Fst fs) (k : Nat) {x : List UInt8} (hx : Inc x) : Fst (fs.set k x) := by
  refine ⟨by rw [List.length_set]; exact h.1, fun y hy => ?_⟩
  rcases List.mem_or_eq_of_mem_set hy with h' | h'
  · exact h.2 y h'
  · rw [h']; exact hx
theorem setFirsts_ev (g : GramT) (hg : GFine g) : EvP (fun k => spec_l2Firsts k g.1 g.2) Fst := by
  have hn := hg.2.1
  have loop (nn : List UInt8) (hnn : nn.length ≤ 1000) : ∀ (m : Nat) (fs : List (List UInt8)), Fst fs → 1280 ≤ tot fs + m → ∀ (n i : Nat), i + n = g.2.length → EvP (fun k => spec_l2Firsts_L122 k g nn fs (i : Int)) Fst := by
    intro m
    induction m with
    | zero => ?_
    | succ m ihm => ?_
    all_goals
      intro fs hf hm n
      have h5 := hf.1
      induction n with
      | zero => intro i h; exact EvP.fn (fun k => spec_l2Firsts_L122_eq k _ _ _ _) (EvP.decN (by omega) (EvP.now hf))
      | succ n ihn =>
        intro i h
        obtain ⟨⟨c, hc, hb⟩, h4, hs⟩ := hg.at (i := i) (by omega)
        have h6 := big65 hb
        have e1 : List.getD (g.2.getD i ([], [])).1 (Int.toNat 0) 0 = c := by rw [hc]; rfl
        have ep : IntKind.i64.wrap ((-1 : Int) + 1) = ((0 : Nat) : Int) := w64 (by omega) (by omega)
        have y : (0 : Int) < ((List.length (g.2.getD i ([], [])).1 : Nat) : Int) := by rw [hc]; show (0 : Int) < 1; omega
        have ei : ((i : Int) + 1) = ((i + 1 : Nat) : Int) := by omega
        have z0 : (0 : Int) ≤ ((c.toNat - 65 : Nat) : Int) := by omega
        have z5 : ((c.toNat - 65 : Nat) : Int) < (fs.length : Int) := by rw [h5]; omega
        refine EvP.fn (fun k => spec_l2Firsts_L122_eq k _ _ _ _) (EvP.decY (by omega) (EvP.yes (by omega) (EvP.yes (by omega) (EvP.yes (by omega) ?_))))
        rw [Int.toNat_natCast, e1, w64 (x := (i : Int) + 1) (by omega) (by omega), ep, ei, w65 hb, Int.toNat_natCast]
        have hF := hf.at (c.toNat - 65) (by omega)
        refine EvP.yes y (EvP.yes z0 (EvP.yes z5 (EvP.yes (by omega) (EvP.yes (by omega) (EvP.bind (setFirst_ev fs hf nn hnn _ (by omega) hs) fun a ha => EvP.bind (setJoin_ev a (by have := ha.le; omega) _ hF) fun r hr => EvP.yes z0 (EvP.yes z5 ?_))))))
        refine EvP.notT (fun hne => EvP.yes z0 (EvP.yes z5 ?_)) (fun _ => ihn (i + 1) (by omega))
        have hlt := hr.2.resolve_left hne
        have ht := tot_set fs (c.toNat - 65) r (by omega)
        have hF2 := hf.set (c.toNat - 65) hr.1
        have := hF2.le
        first
          | (exfalso; omega)
          | exact ihm _ hF2 (by omega) g.2.length 0 (Nat.zero_add _)
  have e5 : Fst (List.replicate (Int.toNat (5 : Int)) ([] : List UInt8)) := ⟨rfl, fun x hx => by rw [List.eq_of_mem_replicate hx]; exact List.Pairwise.nil⟩
  exact EvP.fn (fun k => spec_l2Firsts_eq k _ _) (EvP.bind (setGrow_ev g hg) fun nn hnn => EvP.yes rfl (EvP.yes (by omega) (EvP.yes (by show (5 : Int) < ((maxLenE : Nat) : Int); unfold maxLenE; omega) (loop nn (by have := Inc.le hnn; omega) 1280 _ e5 (by omega) g.2.length 0 (Nat.zero_add _)))))
/-- All signs of a grammar. -/
def SignsP (b : Bool) (g : GramT) (r : List UInt8) : Prop := Inc r ∧ ∀ d ∈ g.1, big d = b → d ∈ r
theorem signs_loop (g : GramT) (hg : GFine g) (b : Bool) : EvP (fun k => spec_l1Signs_L122 k b g [] g.1 (0 : Int)) (SignsP b g) := by
  have hn := hg.2.1
  have pick (t : List UInt8) (ht : t.length ≤ 1000) (hsub : ∀ d ∈ g.1, d ∈ t) : ∀ (n i : Nat) (r : List UInt8), i + n = t.length → Inc r → (∀ d ∈ t.take i, big d = b → d ∈ r) → EvP (fun k => spec_l1Signs_L250 k b r t (i : Int)) (SignsP b g) := by
    intro n
    induction n with
    | zero =>
      intro i r h hr hd
      rw [List.take_of_length_le (by omega)] at hd
      exact EvP.fn (fun k => spec_l1Signs_L250_eq k _ _ _ _) (EvP.decN (by omega) (EvP.now ⟨hr, fun d h1 h2 => hd d (hsub d h1) h2⟩))
    | succ n ih =>
      intro i r h hr hd
      have y : (i : Int) < (t.length : Int) := by omega
      refine EvP.fn (fun k => spec_l1Signs_L250_eq k _ _ _ _) (EvP.decY y (EvP.yes (by omega) (EvP.yes y ?_)))
      rw [Int.toNat_natCast, w64 (by omega) (by omega)]
      refine EvP.bind (l1Big_ev _) fun x hx => ?_
      subst hx
      refine EvP.dec (fun hx => EvP.yes (by omega) (EvP.yes y (EvP.bind (setAdd_ev r hr _) fun s hs => ih (i + 1) s (by omega) hs.1 (take_up (fun d => big d = b → d ∈ s) 0 (by omega) (fun d h1 h2 => (hs.2.1 d).2 (.inr (hd d h1 h2))) fun _ => (hs.2.1 _).2 (.inl rfl))))) (fun hx => ih (i + 1) r (by omega) hr (take_up (fun d => big d = b → d ∈ r) 0 (by omega) hd fun h => absurd h hx))
  have loop : ∀ (n i : Nat) (t : List UInt8), i + n = g.2.length → t.length ≤ 5 + 5 * i → (∀ d ∈ g.1, d ∈ t) → EvP (fun k => spec_l1Signs_L122 k b g [] t (i : Int)) (SignsP b g) := by
    intro n
    induction n with
    | zero =>
      intro i t h ht hs
      exact EvP.fn (fun k => spec_l1Signs_L122_eq k _ _ _ _ _) (EvP.decN (by omega) (pick t (by omega) hs t.length 0 [] (Nat.zero_add _) List.Pairwise.nil fun d h => by cases h))
    | succ n ih =>
      intro i t h ht hs
      obtain ⟨⟨c, hc, hb⟩, h4, _⟩ := hg.at (i := i) (by omega)
      have h1 : (g.2.getD i ([], [])).1.length = 1 := by rw [hc]; rfl
      refine EvP.fn (fun k => spec_l1Signs_L122_eq k _ _ _ _ _) (EvP.decY (by omega) (EvP.yes (by omega) (EvP.yes (by omega) ?_)))
      rw [Int.toNat_natCast, w64 (by omega) (by omega)]
      exact EvP.yes (by omega) (EvP.yes (by omega) (EvP.yes (by omega) (EvP.yes (by rw [List.length_append]; omega) (ih (i + 1) _ (by omega) (by rw [List.length_append, List.length_append]; omega) fun d hd => List.mem_append_left _ (List.mem_append_left _ (hs d hd))))))
  obtain ⟨c, hc, _⟩ := hg.1
  exact loop g.2.length 0 g.1 (Nat.zero_add _) (by rw [hc]; show 1 ≤ _; omega) fun d h => h
theorem l5Signs_ev (g : GramT) (hg : GFine g) : EvP (fun k => spec_l5Signs k g.1 g.2) (fun r => r.length ≤ 512 ∧ r ≠ []) := by
  refine EvP.fn (fun k => spec_l5Signs_eq k _ _) (EvP.bind (EvP.fn (fun k => spec_l1Signs_eq k _ _) (signs_loop g hg true)) fun a ha => EvP.bind (EvP.fn (fun k => spec_l1Signs'_eq k _ _) (signs_loop g hg false)) fun b hb => ?_)
  have h1 := ha.1.le
  have h2 := hb.1.le
  refine EvP.yes (by omega) (EvP.now ⟨by rw [List.length_append]; omega, fun e => ?_⟩)
  obtain ⟨c, hc, hcb⟩ := hg.1
  have := ha.2 c (by rw [hc]; exact List.mem_singleton.2 rfl) hcb
  rw [List.append_eq_nil_iff] at e
  rw [e.1] at this; cases this
/-! items in order -/
abbrev ItT := Int × Int × List UInt8
def rightOf (g : GramT) (r : Int) : List UInt8 := if r < 0 then g.1 else (g.2.getD r.toNat ([], [])).2
structure Itm (g : GramT) (x : ItT) : Prop where
  lo : -1 ≤ x.1
  hi : x.1 < g.2.length
  dot : 0 ≤ x.2.1
  len : x.2.1 ≤ (rightOf g x.1).length
  one : ∃ c, x.2.2 = [c]
theorem GFine.right {g : GramT} (h : GFine g) {r : Int} (h1 : -1 ≤ r) (h2 : r < g.2.length) : (rightOf g r).length ≤ 4 ∧ (rightOf g r).all sign = true := by
  unfold rightOf
  split
  · obtain ⟨c, hc, hb⟩ := h.1
    rw [hc]
    refine ⟨by show 1 ≤ 4; omega, ?_⟩
    simp [sign, hb]
  · exact (h.at (i := r.toNat) (by omega)).2
def itKey (x : ItT) : Nat := ((x.1 + 1).toNat * 5 + x.2.1.toNat) * 256 + (x.2.2.getD 0 0).toNat
def Its (g : GramT) (l : List ItT) : Prop := (l.Pairwise fun a b => itKey a < itKey b) ∧ ∀ x ∈ l, Itm g x
theorem Itm.key {g : GramT} (hg : GFine g) {x : ItT} (h : Itm g x) : itKey x < 11520 := by
  have h1 := (hg.right h.lo h.hi).1
  have h2 := h.len
  have h3 := hg.2.1
  have h4 := h.hi
  have h5 := (x.2.2.getD 0 0).toNat_lt
  unfold itKey
  have h6 : (x.2.2.getD 0 0).toNat < 256 := h5
  omega
theorem Its.le {g : GramT} (hg : GFine g) {l : List ItT} (h : Its g l) : l.length ≤ 11520 :=
  inc_len itKey 11520 l 0 h.1 (fun x hx => ⟨Nat.zero_le _, (h.2 x hx).key hg⟩) (Nat.zero_le _)
theorem Its.nil (g : GramT) : Its g [] := ⟨List.Pairwise.nil, fun x h => by cases h⟩
theorem right_ev (g : GramT) (r : Int) (h : r < g.2.length) : EvP (fun k => spec_l5Right k g.1 g.2 r) (fun x => x = rightOf g r) :=
  EvP.fn (fun k => spec_l5Right_eq k _ _ _) (EvP.dec (fun h1 => EvP.now (by unfold rightOf; rw [if_pos h1])) (fun h1 => EvP.yes (by omega) (EvP.yes h (EvP.now (by unfold rightOf; rw [if_neg h1])))))
def NextP (g : GramT) (x : ItT) (r : List UInt8) : Prop := ((rightOf g x.1).length ≤ x.2.1 ∧ r = []) ∨ (x.2.1 < (rightOf g x.1).length ∧ r = [(rightOf g x.1).getD x.2.1.toNat 0])
theorem next_ev (g : GramT) (hg : GFine g) (x : ItT) (hx : Itm g x) : EvP (fun k => spec_l5Next k g.1 g.2 x.1 x.2.1 x.2.2) (NextP g x) := by
  refine EvP.fn (fun k => spec_l5Next_eq k _ _ _ _ _) (EvP.bind (right_ev g x.1 hx.hi) fun a ha => ?_)
  subst ha
  have h4 := (hg.right hx.lo hx.hi).1
  have hd := hx.dot
  refine EvP.dec (fun h => EvP.now (.inl ⟨h, rfl⟩)) (fun h => ?_)
  rw [w64 (by omega) (by omega)]
  refine EvP.yes hd (EvP.yes (by omega) (EvP.yes (by omega) (EvP.now (.inr ⟨by omega, ?_⟩))))
  rw [show (x.2.1 + 1).toNat = x.2.1.toNat + 1 by omega]
  exact one_sg _ _ (by omega)
def LookP (l : List UInt8 × List (List UInt8)) : Prop := Inc l.1 ∧ Fst l.2
theorem look_ev (g : GramT) (hg : GFine g) : EvP (fun k => spec_l5Look k g.1 g.2) LookP :=
  EvP.fn (fun k => spec_l5Look_eq k _ _) (EvP.bind (setGrow_ev g hg) fun a ha => EvP.bind (setFirsts_ev g hg) fun b hb => EvP.now ⟨ha, hb⟩)
theorem behind_ev (g : GramT) (hg : GFine g) (l : List UInt8 × List (List UInt8)) (hl : LookP l) (x : ItT) (hx : Itm g x) (hd : x.2.1 < (rightOf g x.1).length) : EvP (fun k => spec_l5Behind k g.1 g.2 l.1 l.2 x.1 x.2.1 x.2.2) Inc := by
  refine EvP.fn (fun k => spec_l5Behind_eq k _ _ _ _ _ _ _) (EvP.bind (right_ev g x.1 hx.hi) fun a ha => ?_)
  subst ha
  obtain ⟨h4, hs⟩ := hg.right hx.lo hx.hi
  have hd0 := hx.dot
  have hn := Inc.le hl.1
  rw [w64 (by omega) (by omega), Int.toNat_natCast, List.take_length]
  have hq : (List.drop (x.2.1 + 1).toNat (rightOf g x.1)).length ≤ 1000 := by rw [List.length_drop]; omega
  have hqs : (List.drop (x.2.1 + 1).toNat (rightOf g x.1)).all sign = true := by
    rw [List.all_eq_true] at hs ⊢
    exact fun y hy => hs y (List.mem_of_mem_drop hy)
  refine EvP.yes (by omega) (EvP.yes (by omega) (EvP.yes (by omega) (EvP.bind (setFirst_ev l.2 hl.2 l.1 (by omega) _ hq hqs) fun a ha => EvP.bind (setAll'_ev _ l.1 (by omega) (by omega)) fun b _ => ?_)))
  refine EvP.ite (fun _ => EvP.yes (by omega) (EvP.yes ?_ (EvP.bind (setAdd_ev a ha _) fun r hr => EvP.now hr.1))) (fun _ => EvP.now ha)
  obtain ⟨c, hc⟩ := hx.one
  rw [hc]; show (0 : Int) < 1; omega
theorem less_ev (g : GramT) (hg : GFine g) (x y : ItT) (hx : Itm g x) (hy : Itm g y) : EvP (fun k => spec_l5Less k x.1 x.2.1 x.2.2 y.1 y.2.1 y.2.2) (fun r => r = decide (itKey x < itKey y)) := by
  obtain ⟨a, ha⟩ := hx.one
  obtain ⟨b, hb⟩ := hy.one
  have x1 := hx.lo
  have y1 := hy.lo
  have x2 := hx.dot
  have y2 := hy.dot
  have x3 := (hg.right hx.lo hx.hi).1
  have y3 := (hg.right hy.lo hy.hi).1
  have x4 := hx.len
  have y4 := hy.len
  have a256 : a.toNat < 256 := a.toNat_lt
  have b256 : b.toNat < 256 := b.toNat_lt
  have kx : itKey x = ((x.1 + 1).toNat * 5 + x.2.1.toNat) * 256 + a.toNat := by unfold itKey; rw [ha]; rfl
  have ky : itKey y = ((y.1 + 1).toNat * 5 + y.2.1.toNat) * 256 + b.toNat := by unfold itKey; rw [hb]; rfl
  refine EvP.fn (fun k => spec_l5Less_eq k _ _ _ _ _ _) (EvP.notT (fun h => EvP.now (decide_eq_decide.2 (by rw [kx, ky]; omega))) (fun h => EvP.notT (fun h2 => EvP.now (decide_eq_decide.2 (by rw [kx, ky]; omega))) (fun h2 => EvP.now ?_)))
  rw [ha, hb]
  have e : Go.Op.bytesLess [a] [b] = decide (a < b) := by
    show (decide (a < b) || (a == b && false)) = decide (a < b)
    rw [Bool.and_false, Bool.or_false]
  rw [e]
  refine decide_eq_decide.2 ?_
  rw [kx, ky, UInt8.lt_iff_toNat_lt]
  omega
theorem key_eq {g : GramT} (hg : GFine g) {x y : ItT} (hx : Itm g x) (hy : Itm g y) (h : itKey x = itKey y) : x = y := by
  obtain ⟨a, ha⟩ := hx.one
  obtain ⟨b, hb⟩ := hy.one
  have x1 := hx.lo
  have y1 := hy.lo
  have x2 := hx.dot
  have y2 := hy.dot
  have x3 := (hg.right hx.lo hx.hi).1
  have y3 := (hg.right hy.lo hy.hi).1
  have x4 := hx.len
  have y4 := hy.len
  have a256 : a.toNat < 256 := a.toNat_lt
  have b256 : b.toNat < 256 := b.toNat_lt
  have kx : itKey x = ((x.1 + 1).toNat * 5 + x.2.1.toNat) * 256 + a.toNat := by unfold itKey; rw [ha]; rfl
  have ky : itKey y = ((y.1 + 1).toNat * 5 + y.2.1.toNat) * 256 + b.toNat := by unfold itKey; rw [hb]; rfl
  rw [kx, ky] at h
  have e1 : x.1 = y.1 := by omega
  have e2 : x.2.1 = y.2.1 := by omega
  have e3 : a = b := UInt8.toNat_inj.1 (by omega)
  exact Prod.ext e1 (Prod.ext e2 (by rw [ha, hb, e3]))
def ItAdded (g : GramT) (l : List ItT) (x : ItT) (r : List ItT) : Prop := Its g r ∧ (∀ y, y ∈ r ↔ (y = x ∨ y ∈ l)) ∧ (x ∈ l ∧ r = l ∨ r.length = l.length + 1)
theorem itAdd_ev (g : GramT) (hg : GFine g) (l : List ItT) (hl : Its g l) (x : ItT) (hx : Itm g x) : EvP (fun k => spec_l5Add k l x.1 x.2.1 x.2.2) (ItAdded g l x) := by
  have hn := hl.le hg
  have z : (0 : Int).toNat = 0 := rfl
  have fin : ∀ t, (∀ d ∈ l.take t, itKey d < itKey x) → (∀ d ∈ l.drop t, itKey x < itKey d) → ItAdded g l x (l.take t ++ [x] ++ l.drop t) := fun t h1 h2 =>
    ⟨⟨ins_ok itKey hl.1 h1 h2, fun y hy => ((mem_ins l t x y).1 hy).elim (fun e => by rw [e]; exact hx) (hl.2 y)⟩, mem_ins l t x, .inr (len_ins l t x)⟩
  have loop : ∀ (q t : Nat), t + q = l.length → (∀ d ∈ l.take t, itKey d < itKey x) → EvP (fun k => spec_l5Add_L28 k l x (t : Int)) (ItAdded g l x) := by
    intro q
    induction q with
    | zero =>
      intro t ht hd
      refine EvP.fn (fun k => spec_l5Add_L28_eq k _ _ _) (EvP.decN (by omega) (EvP.decN (by omega) (EvP.yes (by omega) (EvP.yes (by omega) (EvP.yes (by omega) ?_)))))
      rw [Int.toNat_natCast, Int.toNat_natCast, List.take_length, z, List.drop_zero]
      refine EvP.yes (ltM (by rw [List.length_drop]; omega)) (EvP.yes (by omega) (EvP.yes (by omega) (EvP.yes (by omega) (EvP.yes (ltM (by rw [List.length_take]; omega)) (EvP.yes (ltM (by rw [List.length_take]; show _ + 1 ≤ _; omega)) (EvP.yes (ltM (by rw [List.length_append, List.length_take, List.length_drop]; show _ + 1 + _ ≤ _; omega)) (EvP.now (fin t hd fun d h => ?_))))))))
      rw [List.drop_eq_nil_of_le (by omega)] at h; cases h
    | succ q ih =>
      intro t ht hd
      refine EvP.fn (fun k => spec_l5Add_L28_eq k _ _ _) (EvP.decY (by omega) (EvP.yes (by omega) (EvP.yes (by omega) ?_)))
      rw [Int.toNat_natCast, w64 (by omega) (by omega)]
      have hm := getD_mem l t ((0 : Int), (0 : Int), ([] : List UInt8)) (by omega)
      refine EvP.bind (less_ev g hg _ x (hl.2 _ hm) hx) fun b hb => ?_
      subst hb
      refine EvP.dec (fun h => ih (t + 1) (by omega) (take_up (fun d => itKey d < itKey x) ((0 : Int), (0 : Int), ([] : List UInt8)) (by omega) hd h)) (fun h => EvP.decY (by omega) (EvP.yes (by omega) (EvP.yes (by omega) (EvP.ite (fun h2 => EvP.now ?_) (fun h2 => EvP.yes (by omega) (EvP.yes (by omega) (EvP.yes (by omega) ?_)))))))
      · rw [Bool.and_eq_true, Bool.and_eq_true, decide_eq_true_eq, decide_eq_true_eq, decide_eq_true_eq] at h2
        have e : l.getD t ((0 : Int), (0 : Int), ([] : List UInt8)) = x := Prod.ext h2.1 (Prod.ext h2.2.1 h2.2.2)
        rw [e] at hm
        exact ⟨hl, fun d => ⟨.inr, fun h => h.elim (fun e => by rw [e]; exact hm) id⟩, .inl ⟨hm, rfl⟩⟩
      · have hne : itKey (l.getD t ((0 : Int), (0 : Int), ([] : List UInt8))) ≠ itKey x := fun e => h2 (by
          rw [key_eq hg (hl.2 _ hm) hx e]; simp)
        rw [Int.toNat_natCast, List.take_length, z, List.drop_zero]
        refine EvP.yes (ltM (by rw [List.length_drop]; omega)) (EvP.yes (by omega) (EvP.yes (by omega) (EvP.yes (by omega) (EvP.yes (ltM (by rw [List.length_take]; omega)) (EvP.yes (ltM (by rw [List.length_take]; show _ + 1 ≤ _; omega)) (EvP.yes (ltM (by rw [List.length_append, List.length_take, List.length_drop]; show _ + 1 + _ ≤ _; omega)) (EvP.now (fin t hd (drop_up itKey ((0 : Int), (0 : Int), ([] : List UInt8)) hl.1 (by omega) (by omega))))))))))
  exact EvP.fn (fun k => spec_l5Add_eq k _ _ _ _) (loop l.length 0 (Nat.zero_add _) (fun d h => by cases h))
theorem signBig_nil : signBig [] = false := rfl
structure CloseI (g : GramT) (N M : Nat) (out todo : List ItT) : Prop where
  its : Its g out
  big : N ≤ out.length
  good : ∀ x ∈ todo, Itm g x
  le : todo.length ≤ out.length
  m : 2 * (11520 - out.length) + todo.length ≤ M
theorem ahead_loop (g : GramT) (hg : GFine g) (l : List UInt8 × List (List UInt8)) {N M : Nat} {Q : List ItT → Prop} (ahead : List UInt8) (ha : ahead.length ≤ 1000) (at' : List Int) (hat : ∀ j ∈ at', 0 ≤ j ∧ j < g.2.length) (hatl : at'.length ≤ 1000) (i : Nat) (hi : i < at'.length)
    (hnext : ∀ out todo, CloseI g N M out todo → EvP (fun k => spec_l5Close_L123646 k g l out todo ahead at' ((i + 1 : Nat) : Int)) Q) :
    ∀ (n t : Nat) (out todo : List ItT), t + n = ahead.length → CloseI g N M out todo → EvP (fun k => spec_l5Close_L7913362 k g l out todo ahead at' (i : Int) (t : Int)) Q := by
  intro n
  have ei : IntKind.i64.wrap ((i : Int) + 1) = ((i + 1 : Nat) : Int) := w64 (by omega) (by omega)
  induction n with
  | zero =>
    intro t out todo ht hI
    refine EvP.fn (fun k => spec_l5Close_L7913362_eq k _ _ _ _ _ _ _ _) (EvP.decN (by omega) ?_)
    rw [ei]
    exact hnext out todo hI
  | succ n ih =>
    intro t out todo ht hI
    refine EvP.fn (fun k => spec_l5Close_L7913362_eq k _ _ _ _ _ _ _ _) (EvP.decY (by omega) (EvP.yes (by omega) (EvP.yes (by omega) (EvP.yes (by omega) ?_))))
    have et : IntKind.i64.wrap ((t : Int) + 1) = ((t + 1 : Nat) : Int) := w64 (by omega) (by omega)
    rw [et, Int.toNat_natCast, Int.toNat_natCast, Int.toNat_natCast, one_sg ahead t (by omega)]
    have hj := hat _ (getD_mem at' i 0 hi)
    have hx : Itm g (at'.getD i 0, (0 : Int), [ahead.getD t 0]) := ⟨by show -1 ≤ at'.getD i 0; omega, hj.2, by show (0 : Int) ≤ 0; omega, by show (0 : Int) ≤ _; omega, ⟨_, rfl⟩⟩
    refine EvP.yes (by omega) (EvP.yes (by omega) (EvP.bind (itAdd_ev g hg out hI.its _ hx) fun r hr => ?_))
    have h1 := hr.1.le hg
    have h2 := hI.le
    have h3 := hI.m
    refine EvP.dec (fun h => EvP.yes (ltM (by show todo.length + 1 ≤ _; omega)) (ih (t + 1) r _ (by omega) ⟨hr.1, ?_, fun y hy => ?_, ?_, ?_⟩)) (fun h => ih (t + 1) r todo (by omega) ⟨hr.1, ?_, hI.good, ?_, ?_⟩)
    · have := hI.big; omega
    · rcases List.mem_append.1 hy with hy | hy
      · exact hI.good y hy
      · rw [List.mem_singleton.1 hy]; exact hx
    · rw [List.length_append]; show todo.length + 1 ≤ r.length; omega
    · rw [List.length_append]; show 2 * (11520 - r.length) + (todo.length + 1) ≤ M; omega
    · have := hI.big
      rcases hr.2.2 with h' | h'
      · rw [h'.2]; exact this
      · omega
    · rcases hr.2.2 with h' | h'
      · rw [h'.2]; exact h2
      · omega
    · rcases hr.2.2 with h' | h'
      · rw [h'.2]; exact h3
      · omega
theorem at_loop (g : GramT) (hg : GFine g) (l : List UInt8 × List (List UInt8)) {N M : Nat} {Q : List ItT → Prop} (ahead : List UInt8) (ha : ahead.length ≤ 1000) (at' : List Int) (hat : ∀ j ∈ at', 0 ≤ j ∧ j < g.2.length) (hatl : at'.length ≤ 1000)
    (hnext : ∀ out todo, CloseI g N M out todo → EvP (fun k => spec_l5Close_L60 k g l out todo) Q) :
    ∀ (n i : Nat) (out todo : List ItT), i + n = at'.length → CloseI g N M out todo → EvP (fun k => spec_l5Close_L123646 k g l out todo ahead at' (i : Int)) Q := by
  intro n
  induction n with
  | zero =>
    intro i out todo h hI
    exact EvP.fn (fun k => spec_l5Close_L123646_eq k _ _ _ _ _ _ _) (EvP.decN (by omega) (hnext out todo hI))
  | succ n ih =>
    intro i out todo h hI
    exact EvP.fn (fun k => spec_l5Close_L123646_eq k _ _ _ _ _ _ _) (EvP.decY (by omega) (ahead_loop g hg l ahead ha at' hat hatl i (by omega) (fun o t hI' => ih (i + 1) o t (by omega) hI') ahead.length 0 out todo (Nat.zero_add _) hI))
theorem close_loop (g : GramT) (hg : GFine g) (l : List UInt8 × List (List UInt8)) (hl : LookP l) (N : Nat) : ∀ (M : Nat) (out todo : List ItT), CloseI g N M out todo → EvP (fun k => spec_l5Close_L60 k g l out todo) (fun r => Its g r ∧ N ≤ r.length) := by
  intro M
  induction M with
  | zero =>
    intro out todo hI
    have := hI.m
    exact EvP.fn (fun k => spec_l5Close_L60_eq k _ _ _ _) (EvP.decN (by omega) (EvP.now ⟨hI.its, hI.big⟩))
  | succ M ih =>
    intro out todo hI
    cases todo with
    | nil => exact EvP.fn (fun k => spec_l5Close_L60_eq k _ _ _ _) (EvP.decN (by simp) (EvP.now ⟨hI.its, hI.big⟩))
    | cons x rest =>
      have hx := hI.good x (List.mem_cons_self ..)
      have h1 := hI.le
      have h2 := hI.m
      rw [List.length_cons] at h1 h2
      have hI' : CloseI g N M out rest := ⟨hI.its, hI.big, fun y hy => hI.good y (List.mem_cons_of_mem _ hy), by omega, by omega⟩
      have z : (0 : Int).toNat = 0 := rfl
      have z1 : (1 : Int).toNat = 1 := rfl
      refine EvP.fn (fun k => spec_l5Close_L60_eq k _ _ _ _) ?_
      rw [z, z1]
      have eL : (((x :: rest).length : Nat) : Int) = (rest.length : Int) + 1 := by rw [List.length_cons]; omega
      rw [eL]
      refine EvP.decY (by omega) (EvP.yes (by omega) (EvP.yes (by omega) (EvP.yes (by omega) (EvP.yes (by omega) (EvP.bind (next_ev g hg x hx) fun s hs => EvP.bind (specSignBig_ev s) fun b hb => ?_)))))
      subst hb
      refine EvP.ite (fun _ => ih out rest hI') (fun hb => ?_)
      rcases hs with ⟨_, rfl⟩ | ⟨hlt, rfl⟩
      · exact absurd rfl hb
      · refine EvP.bind (behind_ev g hg l hl x hx hlt) fun a ha => EvP.bind (for_ev g (by have := hg.2.1; omega) _) fun r hr => ?_
        have h256 := Inc.le ha
        have h8 := hg.2.1
        exact at_loop g hg l a (by omega) r hr.2 (by have := hr.1; omega) ih r.length 0 out rest (Nat.zero_add _) hI'
theorem close_ev (g : GramT) (hg : GFine g) (l : List UInt8 × List (List UInt8)) (hl : LookP l) (out : List ItT) (ho : Its g out) : EvP (fun k => spec_l5Close k g.1 g.2 l.1 l.2 out) (fun r => Its g r ∧ out.length ≤ r.length) := by
  have hn := ho.le hg
  exact EvP.fn (fun k => spec_l5Close_eq k _ _ _ _ _) (EvP.yes (ltM (by omega)) (EvP.yes (ltM (by omega)) (close_loop g hg l hl out.length 34560 out out ⟨ho, Nat.le_refl _, ho.2, Nat.le_refl _, by omega⟩)))
theorem first_its (g : GramT) : Its g [((-1 : Int), (0 : Int), ([36] : List UInt8))] := by
  refine ⟨List.pairwise_singleton _ _, fun x hx => ?_⟩
  rw [List.mem_singleton.1 hx]
  exact ⟨by show (-1 : Int) ≤ -1; omega, by show (-1 : Int) < (g.2.length : Int); omega, by show (0 : Int) ≤ 0; omega, by show (0 : Int) ≤ _; omega, ⟨36, rfl⟩⟩
theorem move_ev (g : GramT) (hg : GFine g) (l : List UInt8 × List (List UInt8)) (hl : LookP l) (list : List ItT) (hi : Its g list) (c : UInt8) : EvP (fun k => spec_l5Move k g.1 g.2 l.1 l.2 list [c]) (Its g) := by
  have hn := hi.le hg
  have loop : ∀ (n i : Nat) (out : List ItT), i + n = list.length → Its g out → EvP (fun k => spec_l5Move_L58 k list [c] g l out (i : Int)) (Its g) := by
    intro n
    induction n with
    | zero =>
      intro i out h ho
      exact EvP.fn (fun k => spec_l5Move_L58_eq k _ _ _ _ _ _) (EvP.decN (by omega) (EvP.bind (close_ev g hg l hl out ho) fun r hr => EvP.now hr.1))
    | succ n ih =>
      intro i out h ho
      have y : (i : Int) < (list.length : Int) := by omega
      refine EvP.fn (fun k => spec_l5Move_L58_eq k _ _ _ _ _ _) (EvP.decY y (EvP.yes (by omega) (EvP.yes y ?_)))
      rw [Int.toNat_natCast, w64 (x := (i : Int) + 1) (by omega) (by omega)]
      have hx := hi.2 _ (getD_mem list i ((0 : Int), (0 : Int), ([] : List UInt8)) (by omega))
      generalize list.getD i ((0 : Int), (0 : Int), ([] : List UInt8)) = x at hx ⊢
      refine EvP.bind (next_ev g hg x hx) fun s hs => EvP.dec (fun he => ?_) (fun _ => ih (i + 1) out (by omega) ho)
      rcases hs with ⟨_, hs⟩ | ⟨hlt, hs⟩
      · rw [hs] at he; cases he
      · have h4 := (hg.right hx.lo hx.hi).1
        have hd := hx.dot
        rw [w64 (by omega) (by omega)]
        have hx' : Itm g (x.1, x.2.1 + 1, x.2.2) := ⟨hx.lo, hx.hi, by show 0 ≤ x.2.1 + 1; omega, by show x.2.1 + 1 ≤ ((rightOf g x.1).length : Int); omega, hx.one⟩
        exact EvP.yes (by omega) (EvP.yes y (EvP.yes (by omega) (EvP.yes y (EvP.yes (by omega) (EvP.yes y (EvP.bind (itAdd_ev g hg out ho _ hx') fun r hr => ih (i + 1) r (by omega) hr.1))))))
  exact EvP.fn (fun k => spec_l5Move_eq k _ _ _ _ _ _) (loop list.length 0 [] (Nat.zero_add _) (Its.nil g))
/-! drawn items -/
theorem l5Items_tail {m : Nat} {b : List Int} {p : Int} (hr : Rd (m + 2) b p) (l : List ItT) (h1 : 1 ≤ l.length) (h2 : l.length ≤ 20000) : EvP (fun k => spec_l5Items_L511 k (b, p) l) (fun r => 1 ≤ r.1.length ∧ r.1.length ≤ 20001 ∧ Rd m r.2.1 r.2.2) := by
  have y : (0 : Int) < (l.length : Int) := by omega
  refine EvP.fn (fun k => spec_l5Items_L511_eq k _ _) (EvP.bind (pick_ev (m := m + 1) (hr.less (by omega)) (by omega) (by omega)) fun a ha => ?_)
  have hR := ha.2.2
  refine EvP.dec (fun _ => EvP.yes (by omega) (EvP.yes y (EvP.yes (ltM (by show l.length + 1 ≤ _; omega)) (EvP.now ⟨?_, ?_, hR.less (by omega)⟩)))) (fun _ => ?_)
  · show 1 ≤ (l ++ _).length
    rw [List.length_append]; omega
  · show (l ++ _).length ≤ _
    rw [List.length_append]; show l.length + 1 ≤ _; omega
  have set : ∀ (v : ItT), 1 ≤ (l.set (Int.toNat 0) v).length ∧ (l.set (Int.toNat 0) v).length ≤ 20001 := fun v => by rw [List.length_set]; omega
  refine EvP.dec (fun _ => EvP.bind (num_ev (m := m) (hR.less (by omega)) _ (by decide) (by decide)) fun c hc => EvP.yes (by omega) (EvP.yes y (EvP.now ⟨(set _).1, (set _).2, hc.2⟩))) (fun _ => ?_)
  refine EvP.dec (fun _ => EvP.bind (of_ev (m := m) (hR.less (by omega)) _ (by simp) (by simp)) fun c hc => EvP.yes (by omega) (EvP.yes y (EvP.now ⟨(set _).1, (set _).2, hc.2⟩))) (fun _ => ?_)
  exact EvP.dec (fun _ => EvP.bind (num_ev (m := m) (hR.less (by omega)) _ (by decide) (by decide)) fun c hc => EvP.yes (by omega) (EvP.yes y (EvP.now ⟨(set _).1, (set _).2, hc.2⟩))) (fun _ => EvP.now ⟨h1, by show l.length ≤ _; omega, hR.less (by omega)⟩)
theorem l5Items_ev {m : Nat} {b : List Int} {p : Int} (hr : Rd (m + 10) b p) (g : GramT) (hs : ∀ x ∈ g.2, x.2.length ≤ 1000000) : EvP (fun k => spec_l5Items k b p g.1 g.2) (fun r => 1 ≤ r.1.length ∧ r.1.length ≤ 20001 ∧ Rd m r.2.1 r.2.2) := by
  refine EvP.fn (fun k => spec_l5Items_eq k _ _ _ _) (EvP.bind (specGramOk_ev g hs) fun ok hok => ?_)
  cases ok with
  | false => exact EvP.yes rfl (EvP.now ⟨Nat.le_refl _, by show 1 ≤ 20001; omega, hr.less (by omega)⟩)
  | true =>
    have hg := GFine.of (hok.1 rfl)
    refine EvP.no (by simp) (EvP.bind (look_ev g hg) fun l hl => EvP.bind (close_ev g hg l hl _ (first_its g)) fun c hc => EvP.bind (l5Signs_ev g hg) fun sg hsg => EvP.bind (pick_ev (m := m + 9) (hr.less (by omega)) (by omega) (by omega)) fun a ha => ?_)
    have hsl : 1 ≤ sg.length := List.length_pos_iff.2 hsg.2
    have h512 := hsg.1
    have loop : ∀ (n : Nat) {b : List Int} {p : Int} (list : List ItT), n ≤ 4 → Rd (m + 5 + n) b p → Its g list → 1 ≤ list.length → EvP (fun k => spec_l5Items_L506 k (b, p) g l list sg (n : Int)) (fun r => 1 ≤ r.1.length ∧ r.1.length ≤ 20001 ∧ Rd m r.2.1 r.2.2) := by
      intro n
      induction n with
      | zero =>
        intro b p list hn hR hI h1
        have hL := hI.le hg
        refine EvP.fn (fun k => spec_l5Items_L506_eq k _ _ _ _ _ _) (EvP.decN (by omega) (EvP.yes (ltM (by omega)) (EvP.dec (fun h2 => EvP.bind (pick_ev (m := m + 3) (hR.less (by omega)) (by omega) (by omega)) fun c hc => EvP.dec (fun _ => ?_) (fun _ => l5Items_tail (hc.2.2.less (by omega)) list h1 (by omega))) (fun _ => l5Items_tail (hR.less (by omega)) list h1 (by omega)))))
        rw [w64 (by omega) (by omega)]
        refine EvP.bind (pick_ev (m := m + 2) (hc.2.2.less (by omega)) (by omega) (by omega)) fun d hd => ?_
        have d0 := hd.1
        have d1 := hd.2.1
        rw [w64 (by omega) (by omega)]
        refine EvP.yes (by omega) (EvP.yes (by omega) (EvP.yes (by omega) (l5Items_tail hd.2.2 _ ?_ ?_)))
        · show 1 ≤ (List.drop 0 (List.take _ list)).length
          rw [List.drop_zero, List.length_take]; omega
        · show (List.drop 0 (List.take _ list)).length ≤ _
          rw [List.drop_zero, List.length_take]; omega
      | succ n ih =>
        intro b p list hn hR hI h1
        refine EvP.fn (fun k => spec_l5Items_L506_eq k _ _ _ _ _ _) (EvP.decY (by omega) (EvP.bind (pick_ev (m := m + 5 + n) hR (by omega) (by omega)) fun c hc => ?_))
        have c0 := hc.1
        have c1 := hc.2.1
        have ec : List.drop (Int.toNat 0) (List.take (Int.toNat 1) (List.drop (Int.toNat c.1) (List.take (sg.length : Int).toNat sg))) = [sg.getD (Int.toNat c.1) 0] := by
          rw [Int.toNat_natCast, List.take_length, drop_cons sg (Int.toNat c.1) 0 (by omega)]; rfl
        have el : (List.drop (Int.toNat c.1) (List.take (sg.length : Int).toNat sg)).length = sg.length - Int.toNat c.1 := by
          rw [Int.toNat_natCast, List.take_length, List.length_drop]
        rw [ec, el, w64 (by omega) (by omega), show ((n + 1 : Nat) : Int) - 1 = (n : Int) by omega]
        exact EvP.yes c0 (EvP.yes (by omega) (EvP.yes (by omega) (EvP.yes (by omega) (EvP.yes (by omega) (EvP.yes (by omega) (EvP.bind (move_ev g hg l hl list hI _) fun x hx => EvP.dec (fun h0 => ih x (by omega) hc.2.2 hx (by omega)) (fun _ => ih list (by omega) hc.2.2 hI h1)))))))
    obtain ⟨n, hn⟩ : ∃ n : Nat, a.1 = (n : Int) := ⟨a.1.toNat, by have := ha.1; omega⟩
    have := ha.2.1
    rw [hn]
    exact loop n c (by omega) (ha.2.2.less (by omega)) hc.1 hc.2
def ItemP (g : GramT) (x : ItT) : Prop := GramOkP g ∧ -1 ≤ x.1 ∧ x.1 < g.2.length ∧ 0 ≤ x.2.1 ∧ x.2.1 ≤ (rightOf g x.1).length ∧ (x.2.2 = [36] ∨ (0 ≤ x.1 ∧ signSmall x.2.2 = true))
theorem implRight_ev (g : GramT) (r : Int) (h : r < g.2.length) : EvP (fun k => impl_rightOf k g.1 g.2 r) (fun x => x = rightOf g r) :=
  EvP.fn (fun k => impl_rightOf_eq k _ _ _) (EvP.dec (fun h1 => EvP.now (by unfold rightOf; rw [if_pos h1])) (fun h1 => EvP.yes (by omega) (EvP.yes h (EvP.now (by unfold rightOf; rw [if_neg h1])))))
theorem specItemOk_ev (g : GramT) (hs : ∀ x ∈ g.2, x.2.length ≤ 1000000) (x : ItT) : EvP (fun k => spec_ItemOk k g.1 g.2 x.1 x.2.1 x.2.2) (fun r => r = true ↔ ItemP g x) := by
  refine EvP.fn (fun k => spec_ItemOk_eq k _ _ _ _ _) (EvP.bind (specGramOk_ev g hs) fun b hb => EvP.ite (fun h => ?_) (fun h => EvP.now ⟨fun h' => absurd h' (by decide), fun h' => absurd (hb.2 h'.1) h⟩))
  have hG := hb.1 h
  have no : ¬ ItemP g x → (false = true ↔ ItemP g x) := fun h => ⟨fun h' => absurd h' (by decide), fun h' => absurd h' h⟩
  refine EvP.bind (P := fun r => r = true ↔ ItemP g x) (EvP.fn (fun k => spec_l5Item_eq k _ _ _ _ _) ?_) fun r hr => EvP.now hr
  refine EvP.dec (fun h1 => EvP.dec (fun h2 => EvP.dec (fun h3 => EvP.bind (right_ev g x.1 (by omega)) fun s hs => ?_) (fun h3 => EvP.now (no fun hp => by have := hp.2.2.2.1; omega))) (fun h2 => EvP.now (no fun hp => by have := hp.2.2.1; omega))) (fun h1 => EvP.now (no fun hp => by have := hp.2.1; omega))
  subst hs
  refine EvP.dec (fun h4 => ?_) (fun h4 => EvP.now (no fun hp => h4 hp.2.2.2.2.1))
  have ah : EvP (fun k => spec_l5Ahead k x.2.2) (fun r => r = true ↔ (x.2.2 = [36] ∨ signSmall x.2.2 = true)) := by
    refine EvP.fn (fun k => spec_l5Ahead_eq k _) (EvP.decF (fun h5 => EvP.bind (signSmall_ev _) fun c hc => EvP.now ?_) (fun h5 => EvP.now ⟨fun _ => .inl h5, fun _ => rfl⟩))
    rw [hc]
    exact ⟨.inr, fun h => h.elim (fun h => absurd h h5) id⟩
  refine EvP.bind ah fun c hc => EvP.ite (fun h5 => EvP.decF (fun h6 => EvP.now ?_) (fun h6 => EvP.now ⟨fun _ => ⟨hG, h1, h2, h3, h4, (hc.1 h5).elim .inl (fun h => .inr ⟨h6, h⟩)⟩, fun _ => rfl⟩)) (fun h5 => EvP.now (no fun hp => h5 (hc.2 (hp.2.2.2.2.2.elim .inl (fun h => .inr h.2)))))
  rw [decide_eq_true_iff]
  exact ⟨fun h7 => ⟨hG, h1, h2, h3, h4, .inl h7⟩, fun hp => hp.2.2.2.2.2.elim id (fun h => absurd h.1 h6)⟩
theorem ItemP.len4 {g : GramT} {x : ItT} (h : ItemP g x) : (rightOf g x.1).length ≤ 4 := ((GFine.of h.1).right h.2.1 h.2.2.1).1
/-! items ascending, and their text -/
abbrev it0 : ItT := ((0 : Int), (0 : Int), ([] : List UInt8))
def lessB (x y : ItT) : Bool := if x.1 = y.1 then (if x.2.1 = y.2.1 then Go.Op.bytesLess x.2.2 y.2.2 else decide (x.2.1 < y.2.1)) else decide (x.1 < y.1)
theorem lessB_ev (x y : ItT) : EvP (fun k => spec_l5Less k x.1 x.2.1 x.2.2 y.1 y.2.1 y.2.2) (fun r => r = lessB x y) :=
  EvP.fn (fun k => spec_l5Less_eq k _ _ _ _ _ _) (EvP.notT (fun h1 => EvP.now (by simp [lessB, h1])) (fun h1 => EvP.notT (fun h2 => EvP.now (by simp [lessB, h1, h2])) (fun h2 => EvP.now (by simp [lessB, h1, h2]))))
def cmpI (a b : Int) : Int := if a < b then -1 else if b < a then 1 else 0
def cmpS (a b : List UInt8) : Int := if Go.Op.bytesLess a b = true then -1 else if a = b then 0 else 1
theorem nanI_ev (a : Int) : EvP (fun k => cmp_isNaN_int k a) (fun r => r = false) := EvP.fn (fun k => cmp_isNaN_int_eq k a) (EvP.now (by simp))
theorem nanS_ev (a : List UInt8) : EvP (fun k => cmp_isNaN_string k a) (fun r => r = false) := EvP.fn (fun k => cmp_isNaN_string_eq k a) (EvP.now (by simp))
theorem cmpI_ev (a b : Int) : EvP (fun k => cmp_Compare_int k a b) (fun r => r = cmpI a b) := by
  refine EvP.fn (fun k => cmp_Compare_int_eq k a b) (EvP.bind (nanI_ev a) fun x hx => EvP.bind (nanI_ev b) fun y hy => EvP.no (by simp [hx]) (EvP.no (by simp [hy]) (EvP.dec (fun h => EvP.now (by simp [cmpI, h])) (fun h => EvP.dec (fun h2 => EvP.now (by simp [cmpI, h, h2])) (fun h2 => EvP.now (by simp [cmpI, h, h2]))))))
theorem cmpS_ev (a b : List UInt8) : EvP (fun k => cmp_Compare_string k a b) (fun r => r = cmpS a b) := by
  refine EvP.fn (fun k => cmp_Compare_string_eq k a b) (EvP.bind (nanS_ev a) fun x hx => EvP.bind (nanS_ev b) fun y hy => EvP.no (by simp [hx]) (EvP.no (by simp [hy]) (EvP.ite (fun h => EvP.now (by simp [cmpS, h])) (fun h => EvP.ite (fun h2 => EvP.now ?_) (fun h2 => EvP.now ?_)))))
  · have h' : Go.Op.bytesLess a b = false := by simpa using h
    have h3 : ¬ a = b := by simpa [h'] using h2
    simp [cmpS, h', h3]
  · have h' : Go.Op.bytesLess a b = false := by simpa using h
    have h3 : a = b := by simpa [h'] using h2
    subst h3
    simp [cmpS, h']
def nz1 : List Int → Int | [] => 0 | x :: l => if x = 0 then nz1 l else x
theorem or_loop (l : List Int) (hl : l.length ≤ 1000) : ∀ (n i : Nat), i + n = l.length → EvP (fun k => cmp_Or_int_L58 k 0 l (l.length : Int) (i : Int)) (fun r => r = nz1 (l.drop i))
  | 0, i, h => EvP.fn (fun k => cmp_Or_int_L58_eq k _ _ _ _) (EvP.decN (by omega) (EvP.now (by rw [List.drop_eq_nil_of_le (by omega)]; rfl)))
  | n + 1, i, h => by
    refine EvP.fn (fun k => cmp_Or_int_L58_eq k _ _ _ _) (EvP.decY (by omega) (EvP.yes (by omega) (EvP.yes (by omega) ?_)))
    rw [Int.toNat_natCast, drop_cons l i 0 (by omega), w64 (by omega) (by omega)]
    exact EvP.notT (fun hne => EvP.now (by rw [nz1, if_neg hne])) (fun he => (or_loop l hl n (i + 1) (by omega)).mono fun r hr => by rw [hr, nz1, if_pos he])
theorem compare_ev (x y : ItT) : EvP (fun k => impl_compareItems k x.1 x.2.1 x.2.2 y.1 y.2.1 y.2.2) (fun r => decide (0 ≤ r) = !lessB x y) := by
  refine EvP.fn (fun k => impl_compareItems_eq k _ _ _ _ _ _) (EvP.bind (cmpI_ev x.1 y.1) fun a ha => EvP.bind (cmpI_ev x.2.1 y.2.1) fun b hb => EvP.bind (cmpS_ev x.2.2 y.2.2) fun c hc => EvP.bind (P := fun r => r = nz1 [a, b, c]) (EvP.fn (fun k => cmp_Or_int_eq k _) (or_loop [a, b, c] (by simp) 3 0 (by simp))) fun r hr => EvP.now ?_)
  subst ha hb hc hr
  unfold lessB cmpI cmpS nz1
  by_cases h1 : x.1 = y.1
  · have e1 : ¬ x.1 < y.1 := by omega
    have e2 : ¬ y.1 < x.1 := by omega
    simp only [h1, if_pos, Int.lt_irrefl, if_false, if_true]
    by_cases h2 : x.2.1 = y.2.1
    · simp only [h2, Int.lt_irrefl, if_false, if_true, nz1]
      cases h3 : Go.Op.bytesLess x.2.2 y.2.2 with
      | true => simp
      | false => by_cases h4 : x.2.2 = y.2.2 <;> simp [h4]
    · by_cases h3 : x.2.1 < y.2.1
      · simp [h2, h3, nz1]
      · have h4 : y.2.1 < x.2.1 := by omega
        simp [h2, h3, h4, nz1]
  · by_cases h3 : x.1 < y.1
    · simp [h1, h3]
    · have h4 : y.1 < x.1 := by omega
      simp [h1, h3, h4]
def AtOk (g : GramT) (l : List ItT) (j : Nat) : Prop := ItemP g (l.getD j it0) ∧ (0 < j → lessB (l.getD (j - 1) it0) (l.getD j it0) = true)
def ItemsFrom (g : GramT) (l : List ItT) (i : Nat) : Prop := ∀ j, i ≤ j → j < l.length → AtOk g l j
def ItemsP (g : GramT) (l : List ItT) : Prop := GramOkP g ∧ ItemsFrom g l 0
theorem itemsFrom_step {g : GramT} {l : List ItT} {i : Nat} (hi : i < l.length) : ItemsFrom g l i ↔ (AtOk g l i ∧ ItemsFrom g l (i + 1)) := by
  constructor
  · exact fun h => ⟨h i (Nat.le_refl _) hi, fun j hj hl => h j (by omega) hl⟩
  · rintro ⟨h1, h2⟩ j hj hl
    by_cases e : j = i
    · subst e; exact h1
    · exact h2 j (by omega) hl
theorem isItem_ev (g : GramT) (hG : GramOkP g) (x : ItT) : EvP (fun k => impl_isItem k g.1 g.2 x.1 x.2.1 x.2.2) (fun r => r = true ↔ ItemP g x) := by
  have no : ¬ ItemP g x → (false = true ↔ ItemP g x) := fun h => ⟨fun h' => absurd h' (by decide), fun h' => absurd h' h⟩
  refine EvP.fn (fun k => impl_isItem_eq k _ _ _ _ _) ?_
  refine EvP.decF (fun h1 => EvP.decF (fun h2 => EvP.decF (fun h3 => EvP.bind (implRight_ev g x.1 (by omega)) fun s hs => ?_) (fun h3 => EvP.now (no fun hp => by have := hp.2.2.2.1; omega))) (fun h2 => EvP.now (no fun hp => by have := hp.2.2.1; omega))) (fun h1 => EvP.now (no fun hp => by have := hp.2.1; omega))
  subst hs
  refine EvP.dec (fun h4 => EvP.now (no fun hp => by have := hp.2.2.2.2.1; omega)) (fun h4 => EvP.decF (fun h5 => EvP.dec (fun h6 => EvP.bind (implSignSmall_ev _) fun c hc => EvP.now ?_) (fun h6 => EvP.now (no fun hp => hp.2.2.2.2.2.elim (fun h => h5 h) (fun h => h6 h.1)))) (fun h5 => EvP.now ⟨fun _ => ⟨hG, by omega, by omega, by omega, by omega, .inl h5⟩, fun _ => rfl⟩))
  rw [hc]
  exact ⟨fun h7 => ⟨hG, by omega, by omega, by omega, by omega, .inr ⟨h6, h7⟩⟩, fun hp => hp.2.2.2.2.2.elim (fun h => absurd h h5) (fun h => h.2)⟩
theorem implItems_loop (g : GramT) (hG : GramOkP g) (l : List ItT) (hl : l.length ≤ 900000) : ∀ (n i : Nat), i + n = l.length → EvP (fun k => impl_ItemsOk_L58 k l g l (l.length : Int) (i : Int)) (fun r => r = true ↔ ItemsFrom g l i)
  | 0, i, h => EvP.fn (fun k => impl_ItemsOk_L58_eq k _ _ _ _ _) (EvP.decN (by omega) (EvP.now ⟨fun _ j h1 h2 => by omega, fun _ => rfl⟩))
  | n + 1, i, h => by
    have hi : i < l.length := by omega
    refine EvP.fn (fun k => impl_ItemsOk_L58_eq k _ _ _ _ _) (EvP.decY (by omega) (EvP.yes (by omega) (EvP.yes (by omega) ?_)))
    rw [Int.toNat_natCast, w64 (x := (i : Int) + 1) (by omega) (by omega), w64 (x := (i : Int) - 1) (by omega) (by omega)]
    refine EvP.bind (isItem_ev g hG (l.getD i it0)) fun a ha => EvP.ite (fun h1 => ?_) (fun h1 => EvP.now ?_)
    · have ha' := ha.1 (by simpa using h1)
      have rec' : ∀ hl2 : (0 < i → lessB (l.getD (i - 1) it0) (l.getD i it0) = true), EvP (fun k => impl_ItemsOk_L58 k l g l (l.length : Int) ((i : Int) + 1)) (fun r => r = true ↔ ItemsFrom g l i) := fun hl2 =>
        (implItems_loop g hG l hl n (i + 1) (by omega)).mono fun r hr => hr.trans ⟨fun h => (itemsFrom_step hi).2 ⟨⟨ha', hl2⟩, h⟩, fun h => ((itemsFrom_step hi).1 h).2⟩
      refine EvP.dec (fun h2 => EvP.yes (by omega) (EvP.yes (by omega) ?_)) (fun h2 => rec' (fun h3 => by omega))
      have e : ((i : Int) - 1).toNat = i - 1 := by omega
      rw [e]
      refine EvP.bind (compare_ev (l.getD (i - 1) it0) (l.getD i it0)) fun c hc => EvP.dec (fun h3 => EvP.now ?_) (fun h3 => rec' (fun _ => ?_))
      · rw [decide_eq_true h3] at hc
        have hf : lessB (l.getD (i - 1) it0) (l.getD i it0) = false := by simpa using hc.symm
        exact ⟨fun h => (by cases h), fun h => by have := ((itemsFrom_step hi).1 h).1.2 (by omega); rw [hf] at this; cases this⟩
      · rw [decide_eq_false h3] at hc
        simpa using hc.symm
    · have h1' : a = false := by simpa using h1
      exact ⟨fun h => (by cases h), fun h => by have := ha.2 ((itemsFrom_step hi).1 h).1.1; rw [h1'] at this; cases this⟩
theorem implItemsOk_ev (g : GramT) (l : List ItT) (hl : l.length ≤ 900000) : EvP (fun k => impl_ItemsOk k g.1 g.2 l) (fun r => r = true ↔ ItemsP g l) := by
  refine EvP.fn (fun k => impl_ItemsOk_eq k _ _ _) (EvP.bind (implGramOk_ev g) fun b hb => EvP.ite (fun h => EvP.now ?_) (fun h => ?_))
  · have hb' : b = false := by simpa using h
    exact ⟨fun h => (by cases h), fun h => by have := hb.2 h.1; rw [hb'] at this; cases this⟩
  · have hG := hb.1 (by simpa using h)
    exact (implItems_loop g hG l hl l.length 0 (Nat.zero_add _)).mono fun r hr => hr.trans ⟨fun h => ⟨hG, h⟩, fun h => h.2⟩
theorem specItems_loop (g : GramT) (hs : ∀ x ∈ g.2, x.2.length ≤ 1000000) (l : List ItT) (hl : l.length ≤ 900000) : ∀ (n i : Nat), i + n = l.length → EvP (fun k => spec_ItemsOk_L26 k l g (i : Int)) (fun r => r = true ↔ (GramOkP g ∧ ItemsFrom g l i))
  | 0, i, h => EvP.fn (fun k => spec_ItemsOk_L26_eq k _ _ _) (EvP.decN (by omega) (EvP.bind (specGramOk_ev g hs) fun b hb => EvP.now (hb.trans ⟨fun h => ⟨h, fun j h1 h2 => by omega⟩, fun h => h.1⟩)))
  | n + 1, i, h => by
    have hi : i < l.length := by omega
    refine EvP.fn (fun k => spec_ItemsOk_L26_eq k _ _ _) (EvP.decY (by omega) (EvP.yes (by omega) (EvP.yes (by omega) ?_)))
    rw [Int.toNat_natCast, w64 (x := (i : Int) + 1) (by omega) (by omega), w64 (x := (i : Int) - 1) (by omega) (by omega)]
    refine EvP.bind (specItemOk_ev g hs (l.getD i it0)) fun a ha => EvP.ite (fun h1 => ?_) (fun h1 => EvP.now ?_)
    · have ha' := ha.1 (by simpa using h1)
      have rec' : ∀ hl2 : (0 < i → lessB (l.getD (i - 1) it0) (l.getD i it0) = true), EvP (fun k => spec_ItemsOk_L26 k l g ((i : Int) + 1)) (fun r => r = true ↔ (GramOkP g ∧ ItemsFrom g l i)) := fun hl2 =>
        (specItems_loop g hs l hl n (i + 1) (by omega)).mono fun r hr => hr.trans ⟨fun h => ⟨h.1, (itemsFrom_step hi).2 ⟨⟨ha', hl2⟩, h.2⟩⟩, fun h => ⟨h.1, ((itemsFrom_step hi).1 h.2).2⟩⟩
      refine EvP.dec (fun h2 => EvP.yes (by omega) (EvP.yes (by omega) (EvP.yes (by omega) (EvP.yes (by omega) ?_)))) (fun h2 => rec' (fun h3 => by omega))
      have e : ((i : Int) - 1).toNat = i - 1 := by omega
      rw [e]
      refine EvP.bind (lessB_ev (l.getD (i - 1) it0) (l.getD i it0)) fun c hc => EvP.ite (fun h3 => EvP.now ?_) (fun h3 => rec' (fun _ => ?_))
      · have hc' : c = false := by simpa using h3
        rw [hc'] at hc
        exact ⟨fun h => (by cases h), fun h => by have := ((itemsFrom_step hi).1 h.2).1.2 (by omega); rw [← hc] at this; cases this⟩
      · have hc' : c = true := by simpa using h3
        rw [← hc, hc']
    · have h1' : a = false := by simpa using h1
      exact ⟨fun h => (by cases h), fun h => by have := ha.2 ((itemsFrom_step hi).1 h.2).1.1; rw [h1'] at this; cases this⟩
theorem specItemsOk_ev (g : GramT) (hs : ∀ x ∈ g.2, x.2.length ≤ 1000000) (l : List ItT) (hl : l.length ≤ 900000) : EvP (fun k => spec_ItemsOk k g.1 g.2 l) (fun r => r = true ↔ ItemsP g l) :=
  EvP.fn (fun k => spec_ItemsOk_eq k _ _ _) (specItems_loop g hs l hl l.length 0 (Nat.zero_add _))
/-! the order is the keys' -/
theorem ItemP.itm {g : GramT} {x : ItT} (h : ItemP g x) : Itm g x := by
  refine ⟨h.2.1, h.2.2.1, h.2.2.2.1, h.2.2.2.2.1, ?_⟩
  rcases h.2.2.2.2.2 with h | ⟨_, h⟩
  · exact ⟨36, h⟩
  · unfold signSmall at h
    split at h
    · rename_i c hc; exact ⟨c, hc⟩
    · cases h
theorem lessB_key {g : GramT} {x y : ItT} (hx : ItemP g x) (hy : ItemP g y) : lessB x y = decide (itKey x < itKey y) := by
  obtain ⟨_, r, ⟨h1, h2⟩, _⟩ := EvP.both (lessB_ev x y) (less_ev g (GFine.of hx.1) x y hx.itm hy.itm)
  rw [← h1, ← h2]
theorem ItemsP.iff {g : GramT} {l : List ItT} : ItemsP g l ↔ (GramOkP g ∧ (∀ x ∈ l, ItemP g x) ∧ l.Pairwise fun a b => itKey a < itKey b) := by
  have gd : ∀ (i : Nat) (h : i < l.length), l.getD i it0 = l[i] := fun i h => by simp [List.getD, h]
  constructor
  · rintro ⟨hG, h⟩
    have hI : ∀ i, i < l.length → ItemP g (l.getD i it0) := fun i hi => (h i (Nat.zero_le _) hi).1
    have step : ∀ d i, i + d + 1 < l.length → itKey (l.getD i it0) < itKey (l.getD (i + d + 1) it0) := by
      intro d
      induction d with
      | zero =>
        intro i hi
        have := (h (i + 1) (Nat.zero_le _) (by omega)).2 (by omega)
        rw [Nat.add_sub_cancel, lessB_key (hI _ (by omega)) (hI _ (by omega))] at this
        exact of_decide_eq_true this
      | succ d ih =>
        intro i hi
        have h1 := ih i (by omega)
        have := (h (i + (d + 1) + 1) (Nat.zero_le _) hi).2 (by omega)
        rw [Nat.add_sub_cancel, lessB_key (hI _ (by omega)) (hI _ (by omega))] at this
        exact Nat.lt_trans h1 (of_decide_eq_true this)
    refine ⟨hG, fun x hx => ?_, List.pairwise_iff_getElem.2 fun i j hi hj hij => ?_⟩
    · obtain ⟨i, hi, rfl⟩ := List.getElem_of_mem hx
      rw [← gd i hi]; exact hI i hi
    · have := step (j - i - 1) i (by omega)
      rw [show i + (j - i - 1) + 1 = j by omega, gd i hi, gd j hj] at this
      exact this
  · rintro ⟨hG, hI, hP⟩
    refine ⟨hG, fun j _ hj => ⟨?_, fun h0 => ?_⟩⟩
    · rw [gd j hj]; exact hI _ (List.getElem_mem hj)
    · rw [gd j hj, gd (j - 1) (by omega), lessB_key (hI _ (List.getElem_mem _)) (hI _ (List.getElem_mem hj))]
      exact decide_eq_true (List.pairwise_iff_getElem.1 hP (j - 1) j (by omega) hj (by omega))
/-! lines -/
theorem rightE_of (g : GramT) (r : Int) : rightE g.1 g.2 r = rightOf g r := rfl
theorem left_one {g : GramT} (hG : GramOkP g) {r : Int} (h : r < g.2.length) : ∃ c : UInt8, leftE g.2 r = [c] ∧ c ≠ 10 := by
  unfold leftE
  split
  · rename_i h0
    obtain ⟨⟨c, hc, hb⟩, _⟩ := (GFine.of hG).at (i := r.toNat) (by omega)
    refine ⟨c, hc, fun e => ?_⟩
    subst e
    cases hb
  · exact ⟨46, rfl, by decide⟩
theorem ItemP.ahead {g : GramT} {x : ItT} (h : ItemP g x) : ∃ c : UInt8, x.2.2 = [c] ∧ c ≠ 10 := by
  rcases h.2.2.2.2.2 with h | ⟨_, h⟩
  · exact ⟨36, h, by decide⟩
  · unfold signSmall at h
    split at h
    · rename_i c hc
      refine ⟨c, hc, fun e => ?_⟩
      subst e
      cases h
    · cases h
theorem ItemP.fit {g : GramT} {x : ItT} (h : ItemP g x) : fitE g.1 g.2 x = true := by
  obtain ⟨c, hc, _⟩ := left_one h.1 h.2.2.1
  obtain ⟨d, hd, _⟩ := h.ahead
  have h4 := h.len4
  have h5 := h.2.2.2.2.1
  simp only [fitE, Bool.and_eq_true, decide_eq_true_eq]
  exact ⟨⟨⟨⟨⟨h.2.2.1, h.2.2.2.1⟩, h5⟩, by rw [hc]; simp⟩, by show (rightOf g x.1).length ≤ _; omega⟩, by rw [hd]; simp⟩
theorem line_len {g : GramT} {x : ItT} (h : ItemP g x) : (lineE g.1 g.2 x).length ≤ 12 := by
  obtain ⟨c, hc, _⟩ := left_one h.1 h.2.2.1
  obtain ⟨d, hd, _⟩ := h.ahead
  have h4 := h.len4
  simp only [lineE, rightE_of, hc, hd, List.length_append, List.length_cons, List.length_nil, List.length_take, List.length_drop]
  omega
theorem line_count {g : GramT} {x : ItT} (h : ItemP g x) : (lineE g.1 g.2 x).count 10 = 1 := by
  obtain ⟨c, hc, c1⟩ := left_one h.1 h.2.2.1
  obtain ⟨d, hd, d1⟩ := h.ahead
  have hr := ((GFine.of h.1).right h.2.1 h.2.2.1).2
  have h10 : (10 : UInt8) ∉ rightOf g x.1 := fun hm => by
    have := List.all_eq_true.1 hr 10 hm
    cases this
  have t0 : ((rightOf g x.1).take x.2.1.toNat).count 10 = 0 := List.count_eq_zero.2 fun hm => h10 (List.mem_of_mem_take hm)
  have t1 : ((rightOf g x.1).drop x.2.1.toNat).count 10 = 0 := List.count_eq_zero.2 fun hm => h10 (List.mem_of_mem_drop hm)
  have e1 : ([c] : List UInt8).count 10 = 0 := List.count_eq_zero.2 fun hm => c1 (List.mem_singleton.1 hm).symm
  have e2 : ([d] : List UInt8).count 10 = 0 := List.count_eq_zero.2 fun hm => d1 (List.mem_singleton.1 hm).symm
  simp only [lineE, rightE_of, hc, hd, List.count_append, t0, t1, e1, e2]
  rfl
theorem lines_len {g : GramT} : ∀ {l : List ItT}, (∀ x ∈ l, ItemP g x) → (linesE g.1 g.2 l).length ≤ 12 * l.length
  | [], _ => by simp [linesE]
  | x :: l, h => by
    have h1 := line_len (h x (by simp))
    have h2 := lines_len (l := l) (fun y hy => h y (by simp [hy]))
    simp only [linesE, List.length_append, List.length_cons]; omega
theorem lines_count {g : GramT} : ∀ {l : List ItT}, (∀ x ∈ l, ItemP g x) → (linesE g.1 g.2 l).count 10 = l.length
  | [], _ => by simp [linesE]
  | x :: l, h => by
    have h1 := line_count (h x (by simp))
    have h2 := lines_count (l := l) (fun y hy => h y (by simp [hy]))
    simp only [linesE, List.count_append, List.length_cons, h1, h2]; omega
theorem linesE_append (s : List UInt8) (rs : List (List UInt8 × List UInt8)) : ∀ (a b : List ItT), linesE s rs (a ++ b) = linesE s rs a ++ linesE s rs b
  | [], b => by simp [linesE]
  | x :: a, b => by simp [linesE, linesE_append s rs a b]
theorem linesE_take (s : List UInt8) (rs : List (List UInt8 × List UInt8)) (l : List ItT) (k : Nat) (h : k < l.length) : linesE s rs (l.take (k + 1)) = linesE s rs (l.take k) ++ lineE s rs (l.getD k it0) := by
  have e : l.getD k it0 = l[k] := by simp [List.getD, h]
  rw [List.take_succ_eq_append_getElem h, linesE_append, e]
  simp [linesE]
/-- What the text is. -/
def TextP (g : GramT) (l : List ItT) (r : List UInt8) : Prop := (ItemsP g l → r = linesE g.1 g.2 l) ∧ (¬ ItemsP g l → r = [])
theorem implItemsText_ev (g : GramT) (l : List ItT) (hl : l.length ≤ 900000) : EvP (fun k => impl_ItemsText k g.1 g.2 l) (TextP g l) := by
  refine EvP.fn (fun k => impl_ItemsText_eq k _ _ _) (EvP.bind (implItemsOk_ev g l hl) fun b hb => EvP.ite (fun h => ?_) (fun h => EvP.now ⟨fun h' => absurd (hb.2 h') h, fun _ => rfl⟩))
  have hP := hb.1 h
  have hI := (ItemsP.iff.1 hP).2.1
  refine EvP.yes ⟨?_, by have := lines_len hI; omega⟩ (EvP.now ⟨fun _ => rfl, fun h' => absurd hP h'⟩)
  unfold allFitE
  exact List.all_eq_true.2 fun x hx => (hI x hx).fit
theorem specItemsText_loop (g : GramT) (hs : ∀ x ∈ g.2, x.2.length ≤ 1000000) (l : List ItT) (hl : l.length ≤ 900000) (hP : ItemsP g l) : ∀ (n i : Nat), i + n = l.length → EvP (fun k => spec_ItemsText_L58 k l g (linesE g.1 g.2 (l.take i)) (i : Int)) (fun r => r = linesE g.1 g.2 l)
  | 0, i, h => EvP.fn (fun k => spec_ItemsText_L58_eq k _ _ _ _) (EvP.decN (by omega) (EvP.now (by rw [List.take_of_length_le (by omega)])))
  | n + 1, i, h => by
    have hi : i < l.length := by omega
    have hI := (ItemsP.iff.1 hP).2.1
    have hx := hI _ (getD_mem l i it0 hi)
    have hll := lines_len (l := l.take i) (fun x hx => hI x (List.mem_of_mem_take hx))
    rw [List.length_take] at hll
    have rec' : ∀ t, t = linesE g.1 g.2 (l.take (i + 1)) → EvP (fun k => spec_ItemsText_L58 k l g t ((i : Int) + 1)) (fun r => r = linesE g.1 g.2 l) := fun t ht => by
      rw [ht]; exact specItemsText_loop g hs l hl hP n (i + 1) (by omega)
    have cont : EvP (fun k => spec_ItemsText_L7463 k l g (linesE g.1 g.2 (l.take i)) (i : Int) (l.getD i it0) (leftE g.2 (l.getD i it0).1)) (fun r => r = linesE g.1 g.2 l) := by
      have et := linesE_take g.1 g.2 l i hi
      generalize l.getD i it0 = x at hx et ⊢
      generalize hA : linesE g.1 g.2 (l.take i) = A at hll et ⊢
      obtain ⟨c, hc, _⟩ := left_one hx.1 hx.2.2.1
      obtain ⟨d, hd, _⟩ := hx.ahead
      have h4 := hx.len4
      have h0 := hx.2.2.2.1
      have h5 := hx.2.2.2.2.1
      refine EvP.fn (fun k => spec_ItemsText_L7463_eq k _ _ _ _ _ _) (EvP.bind (right_ev g x.1 hx.2.2.1) fun s hs' => ?_)
      subst hs'
      rw [w64 (by omega) (by omega)]
      have e1 : List.drop (Int.toNat 0) (List.take x.2.1.toNat (rightOf g x.1)) = List.take x.2.1.toNat (rightOf g x.1) := rfl
      have e2 : List.take (((rightOf g x.1).length : Nat) : Int).toNat (rightOf g x.1) = rightOf g x.1 := by rw [Int.toNat_natCast, List.take_length]
      have l1 : (List.take x.2.1.toNat (rightOf g x.1)).length ≤ 4 := by rw [List.length_take]; omega
      have l2 : (List.drop x.2.1.toNat (rightOf g x.1)).length ≤ 4 := by rw [List.length_drop]; omega
      rw [e1, e2, hc, hd, show (ByteArray.mk #[(62 : UInt8)]).data.toList = [62] from rfl, show (ByteArray.mk #[(46 : UInt8)]).data.toList = [46] from rfl, show (ByteArray.mk #[(32 : UInt8)]).data.toList = [32] from rfl, show (ByteArray.mk #[(10 : UInt8)]).data.toList = [10] from rfl]
      refine EvP.yes (by simp only [List.length_append, List.length_cons, List.length_nil]; omega) (EvP.yes (by simp only [List.length_append, List.length_cons, List.length_nil]; omega) (EvP.yes (Int.le_refl _) (EvP.yes h0 (EvP.yes h5 (EvP.yes (by simp only [List.length_append, List.length_cons, List.length_nil]; omega) (EvP.yes (by simp only [List.length_append, List.length_cons, List.length_nil]; omega) (EvP.yes h0 (EvP.yes h5 (EvP.yes (Int.le_refl _) (EvP.yes (by simp only [List.length_append, List.length_cons, List.length_nil]; omega) (EvP.yes (by simp only [List.length_append, List.length_cons, List.length_nil]; omega) (EvP.yes (by simp only [List.length_append, List.length_cons, List.length_nil]; omega) (EvP.yes (by simp only [List.length_append, List.length_cons, List.length_nil]; omega) (rec' _ ?_))))))))))))))
      rw [et, lineE, rightE_of, hc, hd]
      simp only [List.append_assoc]
    refine EvP.fn (fun k => spec_ItemsText_L58_eq k _ _ _ _) (EvP.decY (by omega) (EvP.bind (specItemsOk_ev g hs l hl) fun b hb => EvP.yes (hb.2 hP) (EvP.yes (by omega) (EvP.yes (by omega) ?_))))
    rw [Int.toNat_natCast]
    refine EvP.dec (fun h1 => EvP.yes h1 (EvP.yes hx.2.2.1 ?_)) (fun h1 => ?_)
    · have e : leftE g.2 (l.getD i it0).1 = (g.2.getD (l.getD i it0).1.toNat ([], [])).1 := by unfold leftE; rw [if_pos h1]
      rw [e] at cont; exact cont
    · have e : leftE g.2 (l.getD i it0).1 = (ByteArray.mk #[(46 : UInt8)]).data.toList := by unfold leftE; rw [if_neg h1]
      rw [e] at cont; exact cont
theorem specItemsText_ev (g : GramT) (hs : ∀ x ∈ g.2, x.2.length ≤ 1000000) (l : List ItT) (hl : l.length ≤ 900000) : EvP (fun k => spec_ItemsText k g.1 g.2 l) (TextP g l) := by
  by_cases hP : ItemsP g l
  · have h0 := specItemsText_loop g hs l hl hP l.length 0 (Nat.zero_add _)
    have e : linesE g.1 g.2 (l.take 0) = [] := by simp [linesE]
    rw [e] at h0
    refine EvP.mono (P := fun r => r = linesE g.1 g.2 l) (EvP.fn (fun k => spec_ItemsText_eq k g.1 g.2 l) ?_) fun r hr => ⟨fun _ => hr, fun h => absurd hP h⟩
    rw [show (ByteArray.mk #[]).data.toList = ([] : List UInt8) from rfl]
    exact h0
  · have h0 : EvP (fun k => spec_ItemsText_L58 k l g [] (0 : Int)) (fun r => r = []) :=
      EvP.fn (fun k => spec_ItemsText_L58_eq k l g [] 0) (EvP.dec (fun _ => EvP.bind (specItemsOk_ev g hs l hl) fun b hb => EvP.no (fun h => hP (hb.1 h)) (EvP.now rfl)) (fun _ => EvP.now rfl))
    refine EvP.mono (P := fun r => r = []) (EvP.fn (fun k => spec_ItemsText_eq k g.1 g.2 l) ?_) fun r hr => ⟨fun h => absurd h hP, fun _ => hr⟩
    rw [show (ByteArray.mk #[]).data.toList = ([] : List UInt8) from rfl]
    exact h0
theorem drawT_ev (l : List Int) (h : ∀ x ∈ l, (Lit.int .u8 x).wf = true) : EvP (fun k => spec_DrawItemsText k l) (fun r => (∀ x ∈ r.1.2, x.2.length ≤ 1000000) ∧ r.2.length ≤ 20001) := by
  refine EvP.fn (fun k => spec_DrawItemsText_eq k _) (EvP.bind (P := fun r => (∀ x ∈ r.1.2, x.2.length ≤ 1000000) ∧ r.2.length ≤ 20001) ?_ fun r hr => EvP.now hr)
  refine EvP.fn (fun k => spec_DrawItemsOk_eq k _) (EvP.bind (open_ev l h) fun a ha => EvP.bind (gram_ev (m := 60) (ha.less (by omega))) fun g hg => EvP.bind (bentG_ev (m := 20) hg.2 8 (by omega) (by omega) g.1 (hg.1.more (by omega))) fun r hr => ?_)
  have hs : ∀ x ∈ r.1.2, x.2.length ≤ 1000000 := fun x hx => by have := (hr.1.2.2 x hx).2; omega
  exact EvP.bind (l5Items_ev (m := 10) hr.2 r.1 hs) fun s hs' => EvP.now ⟨hs, hs'.2.1⟩
theorem less_ok {g : GramT} {l : List ItT} (h : ItemsP g l) (i : Nat) : ItemsP g (l.take i ++ l.drop (i + 1)) := by
  obtain ⟨hG, hI, hP⟩ := ItemsP.iff.1 h
  have sub : (l.take i ++ l.drop (i + 1)).Sublist l := by
    have e : l.take i ++ l.drop i = l := List.take_append_drop i l
    have h2 : (l.take i ++ l.drop (i + 1)).Sublist (l.take i ++ l.drop i) := (List.Sublist.refl _).append (List.drop_sublist_drop_left l (Nat.le_succ i))
    rw [e] at h2; exact h2
  exact ItemsP.iff.2 ⟨hG, fun x hx => hI x (sub.subset hx), hP.sublist sub⟩
theorem less_loop (g : GramT) (l : List ItT) (hl : l.length ≤ 20001) (h : ItemsP g l) (c : Int) (hc : c = l.length) : ∀ (n i : Nat), i + n = l.length → EvP (fun k => laws_FnItemsText_L4090 k g l (linesE g.1 g.2 l) c (i : Int)) (fun r => r = true)
  | 0, i, hi => EvP.fn (fun k => laws_FnItemsText_L4090_eq k _ _ _ _ _) (EvP.decN (by omega) (EvP.now (decide_eq_true hc)))
  | n + 1, i, hi => by
    have e1 : List.drop (Int.toNat 0) (List.take ((i : Nat) : Int).toNat l) = l.take i := by rw [Int.toNat_natCast]; rfl
    have e2 : IntKind.i64.wrap ((i : Int) + 1) = ((i + 1 : Nat) : Int) := w64 (by omega) (by omega)
    have e3 : List.drop (((i + 1 : Nat) : Int)).toNat (List.take ((l.length : Nat) : Int).toNat l) = l.drop (i + 1) := by rw [Int.toNat_natCast, Int.toNat_natCast, List.take_length]
    have l1 : (l.take i).length ≤ l.length := by rw [List.length_take]; omega
    have l2 : (l.drop (i + 1)).length ≤ l.length := by rw [List.length_drop]; omega
    have hlen : (l.take i ++ l.drop (i + 1)).length + 1 = l.length := by rw [List.length_append, List.length_take, List.length_drop]; omega
    refine EvP.fn (fun k => laws_FnItemsText_L4090_eq k _ _ _ _ _) (EvP.decY (by omega) ?_)
    rw [e1, e2, e3]
    refine EvP.yes (Int.le_refl _) (EvP.yes (by omega) (EvP.yes (by omega) (EvP.yes (ltM (by omega)) (EvP.yes (by omega) (EvP.yes (by omega) (EvP.yes (Int.le_refl _) (EvP.yes (ltM (by omega)) ?_)))))))
    have hL := less_ok h i
    refine EvP.bind (implItemsText_ev g (l.take i ++ l.drop (i + 1)) (by omega)) fun t ht => EvP.decF (fun _ => EvP.bind (implItemsOk_ev g (l.take i ++ l.drop (i + 1)) (by omega)) fun b hb => EvP.no (by rw [hb.2 hL]; simp) (less_loop g l hl h c hc n (i + 1) (by omega))) (fun he => ?_)
    exfalso
    have h1 := ht.1 hL
    have c1 := lines_count (ItemsP.iff.1 hL).2.1
    have c2 := lines_count (ItemsP.iff.1 h).2.1
    rw [← h1, he, c2] at c1
    omega
theorem count_loop (g : GramT) (l : List ItT) (t : List UInt8) (ht : t.length ≤ 1000000) (hk : ∀ c : Int, c = (t.count 10 : Nat) → EvP (fun k => laws_FnItemsText_L4090 k g l t c (0 : Int)) (fun r => r = true)) : ∀ (n i : Nat) (c : Int), i + n = t.length → c = ((t.take i).count 10 : Nat) → EvP (fun k => laws_FnItemsText_L2042 k g l t c (i : Int)) (fun r => r = true)
  | 0, i, c, h, hc => by
    rw [List.take_of_length_le (by omega)] at hc
    exact EvP.fn (fun k => laws_FnItemsText_L2042_eq k _ _ _ _ _) (EvP.decN (by omega) (hk c hc))
  | n + 1, i, c, h, hc => by
    have hle : (t.take i).count 10 ≤ t.length := Nat.le_trans List.count_le_length (by rw [List.length_take]; omega)
    have e : t.getD i 0 = t[i] := by simp [List.getD, (by omega : i < t.length)]
    have ht1 : t.take (i + 1) = t.take i ++ [t[i]] := List.take_succ_eq_append_getElem (by omega)
    refine EvP.fn (fun k => laws_FnItemsText_L2042_eq k _ _ _ _ _) (EvP.decY (by omega) (EvP.yes (by omega) (EvP.yes (by omega) ?_)))
    rw [Int.toNat_natCast, w64 (x := (i : Int) + 1) (by omega) (by omega), w64 (x := c + 1) (by omega) (by omega), e]
    refine EvP.dec (fun h10 => count_loop g l t ht hk n (i + 1) _ (by omega) ?_) (fun h10 => count_loop g l t ht hk n (i + 1) _ (by omega) ?_)
    · have h' : t[i] = 10 := UInt8.toNat_inj.1 (by have : (t[i].toNat : Int) = 10 := h10; show t[i].toNat = 10; omega)
      rw [ht1, List.count_append, h', hc]
      simp
    · have h' : ¬ t[i] = 10 := fun e => h10 (by rw [e]; rfl)
      have e0 : [t[i]].count 10 = 0 := List.count_eq_zero.2 fun hm => h' (List.mem_singleton.1 hm).symm
      rw [ht1, List.count_append, e0, hc]
      simp
theorem law_ev (l : List Int) (h : ∀ x ∈ l, (Lit.int .u8 x).wf = true) : EvP (fun k => laws_FnItemsText k l) (fun r => r = true) := by
  refine EvP.fn (fun k => laws_FnItemsText_eq k _) (EvP.dec (fun _ => EvP.now rfl) (fun _ => EvP.bind (drawT_ev l h) fun d hd => ?_))
  obtain ⟨g, is⟩ := d
  obtain ⟨hs, hl⟩ := hd
  replace hl : is.length ≤ 20001 := hl
  refine EvP.bind (implItemsText_ev g is (by omega)) fun t ht => EvP.bind (specItemsText_ev g hs is (by omega)) fun t2 ht2 => ?_
  have e : t = t2 := by
    by_cases hP : ItemsP g is
    · rw [ht.1 hP, ht2.1 hP]
    · rw [ht.2 hP, ht2.2 hP]
  refine EvP.notT (fun hn => absurd e hn) (fun _ => EvP.bind (specItemsOk_ev g hs is (by omega)) fun b hb => EvP.ite (fun hb' => EvP.now ?_) (fun hb' => ?_))
  · have hb2 : b = false := by simpa using hb'
    have hP : ¬ ItemsP g is := fun hp => by have := hb.2 hp; rw [hb2] at this; cases this
    exact decide_eq_true (ht.2 hP)
  · have hP := hb.1 (by simpa using hb')
    have hI := (ItemsP.iff.1 hP).2.1
    rw [ht.1 hP]
    have hlen := lines_len hI
    have hcnt := lines_count hI
    have := count_loop g is (linesE g.1 g.2 is) (by omega) (fun c hc => less_loop g is hl hP c (by rw [hc, hcnt]) is.length 0 (Nat.zero_add _)) (linesE g.1 g.2 is).length 0 0 (Nat.zero_add _) (by simp)
    exact this
end Go.Proofs.YtpoppblfnaipbaaDoor.Pure
