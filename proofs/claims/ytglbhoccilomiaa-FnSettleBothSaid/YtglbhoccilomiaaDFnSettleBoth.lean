/- What the reader of draws answers: they answer, and within which bounds. -/
import Derived.Test.YtglbhoccilomiaaEv
import Derived.Test.YtglbhoccilomiaaEqFnSettleBoth
namespace Go.Proofs.Ytglbhoccilomiaa.Pure
open Go Go.Proofs.Ytglbhoccilomiaa.Eng Go.Proofs.Ytglbhoccilomiaa.Eq Go.Proofs.Ytglbhoccilomiaa.Ev
set_option autoImplicit false
set_option linter.unusedVariables false
set_option linter.unusedSimpArgs false
set_option linter.unnecessarySimpa false

def Bytes (s : List Int) : Prop := (∀ x ∈ s, 0 ≤ x ∧ x ≤ 255) ∧ s.length ≤ 2000
/-- A reader, m draws ahead. -/
def Rd (m : Nat) (b : List Int) (p : Int) : Prop := Bytes b ∧ 0 ≤ p ∧ p + m ≤ 100000000
theorem Rd.less {m n : Nat} {b : List Int} {p : Int} (h : Rd m b p) (hn : n ≤ m) : Rd n b p := ⟨h.1, h.2.1, by have := h.2.2; omega⟩

theorem open_ev (l : List Int) (h : ∀ x ∈ l, (Lit.int .u8 x).wf = true) : EvP (fun k => spec_l17Open k l) (fun r => Rd 100000000 r.1 r.2) := by
  refine EvP.fn (fun k => spec_l17Open_eq k l) (EvP.dec (fun h1 => ?_) (fun h1 => ?_))
  · refine EvP.yes (by omega) (EvP.yes (by omega) (EvP.yes (by omega) (EvP.now ⟨⟨fun x hx => wf_byte (h x ?_), ?_⟩, by simp, by simp⟩)))
    · exact List.mem_of_mem_take (List.mem_of_mem_drop hx)
    · simp; omega
  · exact EvP.now ⟨⟨fun x hx => wf_byte (h x hx), by show l.length ≤ 2000; omega⟩, by simp, by simp⟩

theorem pick_ev {m : Nat} {b : List Int} {p : Int} (hr : Rd (m + 1) b p) {n : Int} (hn : 1 ≤ n) (hn2 : n ≤ 1000000000) :
    EvP (fun k => spec_l17Rd_pick k b p n) (fun r => 0 ≤ r.1 ∧ r.1 < n ∧ Rd m r.2.1 r.2.2) := by
  obtain ⟨⟨hb, hl⟩, hp, hp2⟩ := hr
  have e1 : IntKind.i64.wrap (p + 1) = p + 1 := w64 (by omega) (by omega)
  have e2 : IntKind.i64.wrap (p + 1 - 1) = p := by rw [w64 (by omega) (by omega)]; omega
  have fin : ∀ x : Int, 0 ≤ x ∧ x < n → (0 ≤ (x, b, p + 1).1 ∧ (x, b, p + 1).1 < n ∧ Rd m (x, b, p + 1).2.1 (x, b, p + 1).2.2) := fun x h => ⟨h.1, h.2, ⟨hb, hl⟩, by show 0 ≤ p + 1; omega, by show p + 1 + m ≤ 100000000; omega⟩
  refine EvP.fn (fun k => spec_l17Rd_pick_eq k b p n) ?_
  rw [e1, e2]
  refine EvP.decF (fun _ => ?_) (fun h => absurd h (by omega))
  refine EvP.dec (fun h0 => EvP.now (fin 0 (by omega))) (fun h0 => ?_)
  refine EvP.dec (fun h1 => ?_) (fun h1 => ?_)
  · refine EvP.yes hp (EvP.yes h1 (EvP.no (by omega) (EvP.now (fin _ ?_))))
    have hx := getD_byte hb p.toNat
    rw [w64 (by omega) (by omega)]
    exact tmod_range _ n hx.1 hn
  · have hL : (1 : Int) ≤ b.length := by omega
    have t1 := tmod_range p b.length hp hL
    have e3 : IntKind.i64.wrap (p * 7) = p * 7 := w64 (by omega) (by omega)
    have e4 : IntKind.i64.wrap (p * 7 + 3) = p * 7 + 3 := w64 (by omega) (by omega)
    have t2 := tmod_range (p * 7 + 3) b.length (by omega) hL
    rw [e3, e4]
    refine EvP.no (by omega) (EvP.yes t1.1 (EvP.yes t1.2 (EvP.no (by omega) (EvP.yes t2.1 (EvP.yes t2.2 (EvP.no (by omega) (EvP.no (by omega) (EvP.now (fin _ ?_)))))))))
    generalize hA : b.getD (p.tmod b.length).toNat 0 = A
    generalize hB : b.getD ((p * 7 + 3).tmod b.length).toNat 0 = B'
    have hA' := getD_byte hb (p.tmod b.length).toNat
    have hB' := getD_byte hb ((p * 7 + 3).tmod b.length).toNat
    rw [hA] at hA'
    rw [hB] at hB'
    have hq : 0 ≤ Int.tdiv p b.length ∧ Int.tdiv p b.length ≤ p := ⟨Int.tdiv_nonneg hp (by omega), by
      rw [Int.tdiv_eq_ediv_of_nonneg hp]; exact Int.ediv_le_self _ hp⟩
    generalize Int.tdiv p b.length = Q at hq
    rw [w64 (x := A) (by omega) (by omega), w64 (x := B') (by omega) (by omega), w64 (x := A * 131) (by omega) (by omega), w64 (x := B' * 1117) (by omega) (by omega), w64 (x := p * 29) (by omega) (by omega), w64 (x := Q) (by omega) (by omega), w64 (x := Q * 53) (by omega) (by omega), w64 (x := A * 131 + B' * 1117) (by omega) (by omega), w64 (x := A * 131 + B' * 1117 + p * 29) (by omega) (by omega), w64 (x := A * 131 + B' * 1117 + p * 29 + Q * 53) (by omega) (by omega)]
    generalize hX : A * 131 + B' * 1117 + p * 29 + Q * 53 = X
    have hX1 : 0 ≤ X ∧ X ≤ 100000000000 := by omega
    have hd : 0 ≤ Int.tdiv X 64 ∧ Int.tdiv X 64 ≤ X := ⟨Int.tdiv_nonneg hX1.1 (by omega), by
      rw [Int.tdiv_eq_ediv_of_nonneg hX1.1]; exact Int.ediv_le_self _ hX1.1⟩
    generalize Int.tdiv X 64 = Y at hd
    rw [w64 (x := Y) (by omega) (by omega)]
    exact tmod_range (bxor X Y) n (xor_nonneg X Y (by omega) (by omega) (by omega) (by omega)) hn
theorem num_ev {m : Nat} {b : List Int} {p : Int} (hr : Rd (m + 1) b p) (l : List Int) (hl : 1 ≤ l.length) (hl2 : l.length ≤ 1000) :
    EvP (fun k => spec_l17Rd_num k b p l) (fun r => r.1 ∈ l ∧ Rd m r.2.1 r.2.2) := by
  refine EvP.fn (fun k => spec_l17Rd_num_eq k b p l) (EvP.bind (pick_ev hr (n := l.length) (by omega) (by omega)) fun a ha => ?_)
  exact EvP.yes ha.1 (EvP.yes ha.2.1 (EvP.now ⟨getD_mem _ _ _ (by omega), ha.2.2⟩))
theorem of_ev {m : Nat} {b : List Int} {p : Int} (hr : Rd (m + 1) b p) (l : List (List UInt8)) (hl : 1 ≤ l.length) (hl2 : l.length ≤ 1000) :
    EvP (fun k => spec_l17Rd_of k b p l) (fun r => r.1 ∈ l ∧ Rd m r.2.1 r.2.2) := by
  refine EvP.fn (fun k => spec_l17Rd_of_eq k b p l) (EvP.bind (pick_ev hr (n := l.length) (by omega) (by omega)) fun a ha => ?_)
  exact EvP.yes ha.1 (EvP.yes ha.2.1 (EvP.now ⟨getD_mem _ _ _ (by omega), ha.2.2⟩))
/-! signs -/
def small (c : UInt8) : Bool := decide (97 ≤ c.toNat) && decide (c.toNat ≤ 100)
theorem l1Small_ev (c : UInt8) : EvP (fun k => spec_l1Small k ((c.toNat : Nat) : Int)) (fun r => r = small c) := by
  refine EvP.fn (fun k => spec_l1Small_eq k _) (EvP.dec (fun h => EvP.now ?_) (fun h => EvP.now ?_))
  · have h1 : 97 ≤ c.toNat := by omega
    have e : decide ((c.toNat : Int) ≤ 100) = decide (c.toNat ≤ 100) := by congr 1; exact propext ⟨fun h => by omega, fun h => by omega⟩
    rw [e]; simp [small, h1]
  · have h1 : ¬ 97 ≤ c.toNat := by omega
    simp [small, h1]
theorem drop_cons {α : Type} (l : List α) (i : Nat) (d : α) (h : i < l.length) : l.drop i = l.getD i d :: l.drop (i + 1) := by
  rw [List.drop_eq_getElem_cons h, List.getD_eq_getElem?_getD, List.getElem?_eq_getElem h]; rfl
/-! grammars drawn -/
abbrev GramT := List UInt8 × List (List UInt8 × List UInt8)
/-- At most n rules, all short. -/
def Gr (n : Nat) (g : GramT) : Prop := g.1.length ≤ 5 ∧ g.2.length ≤ n ∧ ∀ x ∈ g.2, x.1.length ≤ 5 ∧ x.2.length ≤ 5
theorem mG {n : Nat} (h : n ≤ 1000000) : n < maxLenE := by unfold maxLenE; omega
theorem Gr.more {n m : Nat} {g : GramT} (h : Gr n g) (hm : n ≤ m) : Gr m g := ⟨h.1, by have := h.2.1; omega, h.2.2⟩
theorem Gr.add {n : Nat} {g : GramT} (h : Gr n g) (x : List UInt8 × List UInt8) (hx : x.1.length ≤ 5 ∧ x.2.length ≤ 5) : Gr (n + 1) (g.1, g.2 ++ [x]) :=
  ⟨h.1, by have := h.2.1; simp; omega, fun y hy => by
    rcases List.mem_append.1 hy with hy | hy
    · exact h.2.2 y hy
    · rw [List.mem_singleton.1 hy]; exact hx⟩
theorem Gr.set {n : Nat} {g : GramT} (h : Gr n g) (i : Nat) (x : List UInt8 × List UInt8) (hx : x.1.length ≤ 5 ∧ x.2.length ≤ 5) : Gr n (g.1, g.2.set i x) :=
  ⟨h.1, by have := h.2.1; simp; omega, fun y hy => by
    rcases List.mem_or_eq_of_mem_set hy with hy | hy
    · exact h.2.2 y hy
    · rw [hy]; exact hx⟩
theorem Gr.at {n : Nat} {g : GramT} (h : Gr n g) (i : Nat) (hi : i < g.2.length) : (g.2.getD i ([], [])).1.length ≤ 5 ∧ (g.2.getD i ([], [])).2.length ≤ 5 := h.2.2 _ (getD_mem _ _ _ hi)
theorem signed_loop : ∀ (n m : Nat) {b : List Int} {p : Int} (t : List UInt8) (i N : Int), i + n = N → 0 ≤ i → N ≤ 1000 → Rd (m + n) b p → t.length ≤ i → EvP (fun k => spec_l1Signed_L58 k (b, p) N t i) (fun r => r.1.length ≤ N ∧ Rd m r.2.1 r.2.2)
  | 0, m, b, p, t, i, N, h, h0, hN, hr, ht => by
    refine EvP.fn (fun k => spec_l1Signed_L58_eq k _ _ _ _) (EvP.decN (by omega) (EvP.now ⟨by show (t.length : Int) ≤ N; omega, hr⟩))
  | n + 1, m, b, p, t, i, N, h, h0, hN, hr, ht => by
    refine EvP.fn (fun k => spec_l1Signed_L58_eq k _ _ _ _) (EvP.decY (by omega) ?_)
    refine EvP.bind (of_ev (m := m + n) (hr.less (by omega)) _ (by simp) (by simp)) fun a ha => ?_
    have hl : a.1.length = 1 := by
      have := ha.1
      simp only [List.mem_cons, List.not_mem_nil, or_false] at this
      rcases this with h | h | h | h | h | h | h | h | h <;> rw [h] <;> rfl
    refine EvP.yes (by omega) ?_
    rw [w64 (by omega) (by omega)]
    exact signed_loop n m _ (i + 1) N (by omega) (by omega) hN ha.2 (by simp [hl]; omega)
theorem signed_ev {m n : Nat} {b : List Int} {p : Int} {N : Int} (h0 : 0 ≤ N) (hN : N ≤ n) (hn : n ≤ 1000) (hr : Rd (m + n) b p) : EvP (fun k => spec_l1Signed k b p N) (fun r => r.1.length ≤ N ∧ Rd m r.2.1 r.2.2) := by
  obtain ⟨N', rfl⟩ := Int.eq_ofNat_of_zero_le h0
  exact EvP.fn (fun k => spec_l1Signed_eq k _ _ _) (signed_loop N' m [] 0 _ (by omega) (by omega) (by omega) (hr.less (by omega)) (by simp))
theorem place_loop (l : List (List UInt8 × List UInt8)) (hl : l.length ≤ 1000) (x : List UInt8 × List UInt8) : ∀ (n i : Nat), i + n = l.length → EvP (fun k => spec_l1Place_L26 k l x (i : Int)) (fun r => r < 0 ↔ x ∉ l.drop i)
  | 0, i, h => by
    refine EvP.fn (fun k => spec_l1Place_L26_eq k _ _ _) (EvP.decN (by omega) (EvP.now ?_))
    rw [List.drop_eq_nil_of_le (by omega)]
    exact ⟨fun _ h => absurd h List.not_mem_nil, fun _ => by decide⟩
  | n + 1, i, h => by
    refine EvP.fn (fun k => spec_l1Place_L26_eq k _ _ _) (EvP.decY (by omega) (EvP.yes (by omega) (EvP.yes (by omega) ?_)))
    rw [Int.toNat_natCast, drop_cons l i ([], []) (by omega)]
    refine EvP.ite (fun h' => EvP.now ?_) (fun h' => ?_)
    · simp only [Bool.and_eq_true, decide_eq_true_eq] at h'
      have e : x = l.getD i ([], []) := Prod.ext h'.1.symm h'.2.symm
      exact ⟨fun h => absurd h (by omega), fun h => absurd (e ▸ List.mem_cons_self) h⟩
    · have e : ¬ x = l.getD i ([], []) := fun e => h' (by rw [← e]; simp)
      rw [w64 (by omega) (by omega)]
      refine (place_loop l hl x n (i + 1) (by omega)).mono fun r hr => ?_
      rw [hr, List.mem_cons, not_or]
      exact ⟨fun h => ⟨e, h⟩, fun h => h.2⟩
theorem place_ev (l : List (List UInt8 × List UInt8)) (hl : l.length ≤ 1000) (x y : List UInt8) : EvP (fun k => spec_l1Place k l x y) (fun r => r < 0 ↔ (x, y) ∉ l) := by
  refine EvP.fn (fun k => spec_l1Place_eq k _ _ _) ((place_loop l hl (x, y) l.length 0 (by omega)).mono fun r hr => ?_)
  rw [hr, List.drop_zero]
theorem base_ev (n : Int) : EvP (fun k => spec_l1Base k n) (fun r => Gr 6 r) := by
  refine EvP.fn (fun k => spec_l1Base_eq k _) ?_
  refine EvP.dec (fun _ => EvP.now ?_) (fun _ => EvP.dec (fun _ => EvP.now ?_) (fun _ => EvP.dec (fun _ => EvP.now ?_) (fun _ => EvP.dec (fun _ => EvP.now ?_) (fun _ => EvP.dec (fun _ => EvP.now ?_) (fun _ => EvP.dec (fun _ => EvP.now ?_) (fun _ => EvP.dec (fun _ => EvP.now ?_) (fun _ => EvP.now ?_)))))))
  all_goals (unfold Gr; decide)
theorem gram_loop : ∀ (n m : Nat) {b : List Int} {p : Int} (x g : GramT) (q : Nat), Gr q g → q + n ≤ 100 → Rd (m + 5 * n) b p →
    EvP (fun k => spec_l1Gram_L122 k (b, p) x g (n : Int)) (fun r => Gr (q + n) r.1 ∧ Rd m r.2.1 r.2.2)
  | 0, m, b, p, x, g, q, hg, hq, hr => by
    refine EvP.fn (fun k => spec_l1Gram_L122_eq k _ _ _ _) (EvP.decN (by omega) (EvP.now ⟨hg, hr⟩))
  | n + 1, m, b, p, x, g, q, hg, hq, hr => by
    have hg2 := hg.2.1
    refine EvP.fn (fun k => spec_l1Gram_L122_eq k _ _ _ _) (EvP.decY (by omega) ?_)
    refine EvP.bind (of_ev (m := m + 5 * n + 4) (hr.less (by omega)) _ (by simp) (by simp)) fun a ha => ?_
    have hl : a.1.length = 1 := by
      have := ha.1
      simp only [List.mem_cons, List.not_mem_nil, or_false] at this
      rcases this with h | h | h | h <;> rw [h] <;> rfl
    refine EvP.bind (num_ev (m := m + 5 * n + 3) (ha.2.less (by omega)) _ (by simp) (by simp)) fun c hc => ?_
    have hcb : 0 ≤ c.1 ∧ c.1 ≤ 3 := by
      have := hc.1
      simp only [List.mem_cons, List.not_mem_nil, or_false] at this
      omega
    refine EvP.bind (signed_ev (m := m + 5 * n) (n := 3) hcb.1 (by omega) (by omega) (hc.2.less (by omega))) fun d hd => ?_
    refine EvP.bind (place_ev g.2 (by omega) a.1 d.1) fun e he => ?_
    have e1 : IntKind.i64.wrap (((n + 1 : Nat) : Int) - 1) = (n : Int) := by rw [w64 (by omega) (by have := hr.2.2; omega)]; omega
    rw [e1]
    refine EvP.dec (fun _ => EvP.yes (mG (by simp; omega)) ?_) (fun _ => ?_)
    · exact (gram_loop n m _ _ (q + 1) (hg.add (a.1, d.1) ⟨by show a.1.length ≤ 5; omega, by show d.1.length ≤ 5; omega⟩) (by omega) hd.2).mono fun r hr => ⟨hr.1.more (by omega), hr.2⟩
    · exact (gram_loop n m _ _ q hg (by omega) hd.2).mono fun r hr => ⟨hr.1.more (by omega), hr.2⟩
theorem gram_ev {m : Nat} {b : List Int} {p : Int} (hr : Rd (m + 30) b p) : EvP (fun k => spec_l1Gram k b p) (fun r => Gr 6 r.1 ∧ Rd m r.2.1 r.2.2) := by
  refine EvP.fn (fun k => spec_l1Gram_eq k _ _) (EvP.bind (pick_ev (m := m + 29) hr (by omega) (by omega)) fun a ha => EvP.dec (fun _ => ?_) (fun _ => ?_))
  · refine EvP.bind (num_ev (m := m + 28) ha.2.2 _ (by simp) (by simp)) fun c hc => EvP.bind (base_ev c.1) fun d hd => EvP.now ⟨hd, hc.2.less (by omega)⟩
  · refine EvP.bind (num_ev (m := m + 28) ha.2.2 _ (by simp) (by simp)) fun c hc => ?_
    have hcb : 0 ≤ c.1 ∧ c.1 ≤ 5 := by
      have := hc.1
      simp only [List.mem_cons, List.not_mem_nil, or_false] at this
      omega
    obtain ⟨N, hN⟩ := Int.eq_ofNat_of_zero_le hcb.1
    rw [hN]
    exact (gram_loop N m _ _ 0 ⟨by decide, by decide, by simp⟩ (by omega) (hc.2.less (by omega))).mono fun r hr => ⟨hr.1.more (by omega), hr.2⟩
theorem lens {l : List (List UInt8)} {x : List UInt8} (h : x ∈ l) (hl : (l.all fun x => decide (x.length ≤ 5)) = true) : x.length ≤ 5 := of_decide_eq_true (List.all_eq_true.1 hl x h)
def signSmall (s : List UInt8) : Bool := match s with | [c] => small c | _ => false
theorem for_loop (s : List UInt8) (g : GramT) (hg : g.2.length ≤ 1000) : ∀ (n i : Nat) (l : List Int), i + n = g.2.length → l.length ≤ i → (∀ j ∈ l, 0 ≤ j ∧ j < g.2.length) →
    EvP (fun k => spec_l1For_L58 k s g l (i : Int)) (fun r => r.length ≤ g.2.length ∧ ∀ j ∈ r, 0 ≤ j ∧ j < g.2.length)
  | 0, i, l, h, hl, hj => by
    refine EvP.fn (fun k => spec_l1For_L58_eq k _ _ _ _) (EvP.decN (by omega) (EvP.now ⟨by omega, hj⟩))
  | n + 1, i, l, h, hl, hj => by
    refine EvP.fn (fun k => spec_l1For_L58_eq k _ _ _ _) (EvP.decY (by omega) (EvP.yes (by omega) (EvP.yes (by omega) ?_)))
    rw [w64 (by omega) (by omega)]
    refine EvP.dec (fun _ => EvP.yes (mG (by simp; omega)) ?_) (fun _ => ?_)
    · refine for_loop s _ hg n (i + 1) _ (by show i + 1 + n = g.2.length; omega) (by simp; omega) fun j hj' => ?_
      rcases List.mem_append.1 hj' with h' | h'
      · exact hj j h'
      · rw [List.mem_singleton.1 h']; constructor
        · omega
        · show (i : Int) < (g.2.length : Int); omega
    · exact for_loop s _ hg n (i + 1) _ (by show i + 1 + n = g.2.length; omega) (by omega) hj
theorem for_ev (g : GramT) (hg : g.2.length ≤ 1000) (s : List UInt8) : EvP (fun k => spec_l1For k g.1 g.2 s) (fun r => r.length ≤ g.2.length ∧ ∀ j ∈ r, 0 ≤ j ∧ j < g.2.length) :=
  EvP.fn (fun k => spec_l1For_eq k _ _ _) (for_loop s g hg g.2.length 0 [] (by omega) (by simp) (fun j h => absurd h List.not_mem_nil))
/-! grammars that are right -/
def big (c : UInt8) : Bool := decide (65 ≤ c.toNat) && decide (c.toNat ≤ 69)
def signBig (s : List UInt8) : Bool := match s with | [c] => big c | _ => false
def sign (c : UInt8) : Bool := big c || small c
def ruleOk (x : List UInt8 × List UInt8) : Bool := signBig x.1 && (x.2.all sign && decide (x.2.length ≤ 4))
def GramOkP (g : GramT) : Prop := signBig g.1 = true ∧ g.2.length ≤ 8 ∧ ∀ j, j < g.2.length → ruleOk (g.2.getD j ([], [])) = true ∧ g.2.getD j ([], []) ∉ g.2.take j
theorem l1Big_ev (c : UInt8) : EvP (fun k => spec_l1Big k ((c.toNat : Nat) : Int)) (fun r => r = big c) := by
  refine EvP.fn (fun k => spec_l1Big_eq k _) (EvP.dec (fun h => EvP.now ?_) (fun h => EvP.now ?_))
  · have h1 : 65 ≤ c.toNat := by omega
    have e : decide ((c.toNat : Int) ≤ 69) = decide (c.toNat ≤ 69) := by congr 1; exact propext ⟨fun h => by omega, fun h => by omega⟩
    rw [e]; simp [big, h1]
  · have h1 : ¬ 65 ≤ c.toNat := by omega
    simp [big, h1]
theorem specSignBig_ev (s : List UInt8) : EvP (fun k => spec_SignBig k s) (fun r => r = signBig s) := by
  refine EvP.fn (fun k => spec_SignBig_eq k s) (EvP.dec (fun h => EvP.yes (by omega) (EvP.yes (by omega) (EvP.bind (l1Big_ev _) fun b hb => EvP.now ?_))) (fun h => EvP.now ?_))
  · match s, h with
    | [c], _ => exact hb
  · match s, h with
    | [], _ => rfl
    | [c], h => exact absurd rfl h
    | _ :: _ :: _, _ => rfl
def signs : List UInt8 := [65, 66, 67, 68, 69, 97, 98, 99, 100]
set_option maxRecDepth 100000 in
theorem sign_contains (c : UInt8) : signs.contains c = sign c := by
  have key : ∀ n : Nat, n < 256 → signs.contains (UInt8.ofNat n) = sign (UInt8.ofNat n) := by decide +kernel
  have := key c.toNat (UInt8.toNat_lt c)
  rwa [UInt8.ofNat_toNat] at this
theorem l1Right_loop (s : List UInt8) (hs : s.length ≤ 1000000) : ∀ (n i : Nat), i + n = s.length → EvP (fun k => spec_l1Right_L26 k s 4 (i : Int)) (fun r => r = ((s.drop i).all sign && decide (s.length ≤ 4)))
  | 0, i, h => by
    refine EvP.fn (fun k => spec_l1Right_L26_eq k _ _ _) (EvP.decN (by omega) (EvP.now ?_))
    have e : decide ((s.length : Int) ≤ 4) = decide (s.length ≤ 4) := by congr 1; exact propext ⟨fun h => by omega, fun h => by omega⟩
    rw [e, List.drop_eq_nil_of_le (by omega)]; simp
  | n + 1, i, h => by
    refine EvP.fn (fun k => spec_l1Right_L26_eq k _ _ _) (EvP.decY (by omega) (EvP.yes (by omega) (EvP.yes (by omega) ?_)))
    rw [Int.toNat_natCast, w64 (by omega) (by omega), drop_cons s i 0 (by omega)]
    have next := l1Right_loop s hs n (i + 1) (by omega)
    refine EvP.bind (l1Big_ev _) fun b hb => ?_
    subst hb
    cases hc : big (s.getD i 0) with
    | true =>
      refine EvP.no (by simp) (next.mono fun r hr => ?_)
      have : sign (s.getD i 0) = true := by simp only [sign, hc, Bool.true_or]
      rw [hr, List.all_cons, this, Bool.true_and]
    | false =>
      refine EvP.yes rfl (EvP.yes (by omega) (EvP.yes (by omega) (EvP.bind (l1Small_ev _) fun b hb => ?_)))
      subst hb
      have e : sign (s.getD i 0) = small (s.getD i 0) := by simp only [sign, hc, Bool.false_or]
      cases hd : small (s.getD i 0) with
      | true => exact EvP.no (by simp) (next.mono fun r hr => by rw [hr, List.all_cons, e, hd, Bool.true_and])
      | false => exact EvP.yes rfl (EvP.now (by rw [List.all_cons, e, hd]; rfl))
theorem l1Right_ev (s : List UInt8) (hs : s.length ≤ 1000000) : EvP (fun k => spec_l1Right k s 4) (fun r => r = (s.all sign && decide (s.length ≤ 4))) :=
  EvP.fn (fun k => spec_l1Right_eq k _ _) ((l1Right_loop s hs s.length 0 (by omega)).mono fun r hr => by rw [hr, List.drop_zero])
/-- From a place on. -/
def okFrom (l : List (List UInt8 × List UInt8)) (i : Nat) : Prop := ∀ j, i ≤ j → j < l.length → ruleOk (l.getD j ([], [])) = true ∧ l.getD j ([], []) ∉ l.take j
theorem okFrom_step {l : List (List UInt8 × List UInt8)} {i : Nat} (hi : i < l.length) : okFrom l i ↔ ((ruleOk (l.getD i ([], [])) = true ∧ l.getD i ([], []) ∉ l.take i) ∧ okFrom l (i + 1)) := by
  constructor
  · intro h; exact ⟨h i (Nat.le_refl _) hi, fun j hj hl => h j (by omega) hl⟩
  · rintro ⟨h1, h2⟩ j hj hl
    rcases Nat.eq_or_lt_of_le hj with e | e
    · rw [← e]; exact h1
    · exact h2 j e hl
theorem specGramOk_loop (g : GramT) (hg : g.2.length ≤ 8) (hs : ∀ x ∈ g.2, x.2.length ≤ 1000000) : ∀ (n i : Nat), i + n = g.2.length → EvP (fun k => spec_GramOk_L58 k g (i : Int)) (fun r => r = true ↔ okFrom g.2 i)
  | 0, i, h => by
    refine EvP.fn (fun k => spec_GramOk_L58_eq k _ _) (EvP.decN (by omega) (EvP.now ?_))
    exact ⟨fun _ j h1 h2 => by omega, fun _ => rfl⟩
  | n + 1, i, h => by
    refine EvP.fn (fun k => spec_GramOk_L58_eq k _ _) (EvP.decY (by omega) (EvP.yes (by omega) (EvP.yes (by omega) ?_)))
    rw [Int.toNat_natCast, okFrom_step (by omega)]
    refine EvP.bind (specSignBig_ev _) fun b hb => ?_
    subst hb
    cases h1 : signBig (g.2.getD i ([], [])).1 with
    | false => exact EvP.no (by simp) (EvP.now ⟨fun h => by simp at h, fun h => by have := h.1.1; simp only [ruleOk, h1, Bool.false_and] at this; cases this⟩)
    | true =>
      refine EvP.yes rfl (EvP.yes (by omega) (EvP.yes (by omega) (EvP.bind (l1Right_ev _ (hs _ (getD_mem _ _ _ (by omega)))) fun b hb => ?_)))
      subst hb
      cases h2 : ((g.2.getD i ([], [])).2.all sign && decide ((g.2.getD i ([], [])).2.length ≤ 4)) with
      | false => exact EvP.no (by simp) (EvP.now ⟨fun h => by simp at h, fun h => by have := h.1.1; simp only [ruleOk, h1, h2] at this; simp at this⟩)
      | true =>
        have hok : ruleOk (g.2.getD i ([], [])) = true := by simp only [ruleOk, h1, h2, Bool.and_self]
        refine EvP.yes rfl (EvP.yes (by omega) (EvP.yes (by omega) (EvP.yes (by show (i : Int) ≤ (g.2.length : Int); omega) (EvP.yes (by omega) (EvP.yes (by omega) ?_)))))
        refine EvP.bind (place_ev _ (by simp; omega) _ _) fun b hb => ?_
        have e : List.drop (Int.toNat 0) (List.take i g.2) = g.2.take i := rfl
        rw [e] at hb
        refine EvP.dec (fun h0 => EvP.now ⟨fun h => by simp at h, fun h => absurd (hb.2 h.1.2) (by omega)⟩) (fun h0 => ?_)
        rw [w64 (by omega) (by omega)]
        refine (specGramOk_loop g hg hs n (i + 1) (by omega)).mono fun r hr => ?_
        rw [hr]
        exact ⟨fun h => ⟨⟨hok, hb.1 (by omega)⟩, h⟩, fun h => h.2⟩
theorem specGramOk_ev (g : GramT) (hs : ∀ x ∈ g.2, x.2.length ≤ 1000000) : EvP (fun k => spec_GramOk k g.1 g.2) (fun r => r = true ↔ GramOkP g) := by
  refine EvP.fn (fun k => spec_GramOk_eq k _ _) (EvP.bind (specSignBig_ev _) fun b hb => ?_)
  subst hb
  cases h1 : signBig g.1 with
  | false => exact EvP.no (by simp) (EvP.now ⟨fun h => by simp at h, fun h => by rw [h.1] at h1; cases h1⟩)
  | true =>
    refine EvP.yes rfl (EvP.dec (fun h8 => EvP.now ⟨fun h => by simp at h, fun h => by have := h.2.1; omega⟩) (fun h8 => ?_))
    refine (specGramOk_loop g (by omega) hs g.2.length 0 (by omega)).mono fun r hr => ?_
    rw [hr]
    exact ⟨fun h => ⟨h1, by omega, fun j hj => h j (Nat.zero_le _) hj⟩, fun h j _ hj => h.2.2 j hj⟩
/-! sets of signs: strings in order -/
def Inc (s : List UInt8) : Prop := s.Pairwise fun a b => a.toNat < b.toNat
theorem ltM {a : Nat} (h : a ≤ 1000000) : a < maxLenE := by unfold maxLenE; omega
theorem one_sg (l : List UInt8) (i : Nat) (hi : i < l.length) : List.drop i (List.take (i + 1) l) = [l.getD i 0] := by
  rw [List.take_add_one, List.drop_append_of_le_length (by rw [List.length_take]; omega), List.drop_eq_nil_of_le (by rw [List.length_take]; omega), List.getD_eq_getElem?_getD, List.getElem?_eq_getElem hi]; rfl
theorem inc_len {α : Type} (f : α → Nat) (N : Nat) : ∀ (l : List α) (lo : Nat), l.Pairwise (fun a b => f a < f b) → (∀ x ∈ l, lo ≤ f x ∧ f x < N) → lo ≤ N → l.length + lo ≤ N
  | [], lo, _, _, h => by simpa using h
  | x :: t, lo, hp, hr, h => by
    rw [List.pairwise_cons] at hp
    have hx := hr x (List.mem_cons_self ..)
    have := inc_len f N t (f x + 1) hp.2 (fun y hy => ⟨hp.1 y hy, (hr y (List.mem_cons_of_mem _ hy)).2⟩) (by omega)
    rw [List.length_cons]; omega
theorem Inc.le {s : List UInt8} (h : Inc s) : s.length ≤ 256 := inc_len UInt8.toNat 256 s 0 h (fun x _ => ⟨Nat.zero_le _, x.toNat_lt⟩) (Nat.zero_le _)
theorem ins_ok {α : Type} (f : α → Nat) {l : List α} (hi : l.Pairwise fun a b => f a < f b) {t : Nat} {c : α} (h1 : ∀ d ∈ l.take t, f d < f c) (h2 : ∀ d ∈ l.drop t, f c < f d) : (l.take t ++ [c] ++ l.drop t).Pairwise fun a b => f a < f b := by
  rw [List.pairwise_append, List.pairwise_append]
  refine ⟨⟨hi.sublist (List.take_sublist ..), List.pairwise_singleton _ _, fun a ha b hb => by rw [List.mem_singleton.1 hb]; exact h1 a ha⟩, hi.sublist (List.drop_sublist ..), fun a ha b hb => ?_⟩
  rcases List.mem_append.1 ha with h | h
  · exact Nat.lt_trans (h1 a h) (h2 b hb)
  · rw [List.mem_singleton.1 h]; exact h2 b hb
theorem drop_up {α : Type} (f : α → Nat) (d0 : α) {l : List α} (hi : l.Pairwise fun a b => f a < f b) {t : Nat} (ht : t < l.length) {v : Nat} (h : v < f (l.getD t d0)) : ∀ d ∈ l.drop t, v < f d := by
  intro d hd
  have hp := hi.sublist (List.drop_sublist t l)
  rw [drop_cons l t d0 ht] at hd hp
  rw [List.pairwise_cons] at hp
  rcases List.mem_cons.1 hd with e | hd
  · rw [e]; exact h
  · exact Nat.lt_trans h (hp.1 d hd)
theorem take_up {α : Type} (P : α → Prop) (d0 : α) {l : List α} {t : Nat} (ht : t < l.length) (h : ∀ d ∈ l.take t, P d) (hc : P (l.getD t d0)) : ∀ d ∈ l.take (t + 1), P d := by
  intro d hd
  rw [List.take_add_one, List.getElem?_eq_getElem ht] at hd
  rw [List.getD_eq_getElem?_getD, List.getElem?_eq_getElem ht] at hc
  rcases List.mem_append.1 hd with hd | hd
  · exact h d hd
  · have : d = l[t] := by simpa using hd
    rw [this]; exact hc
theorem mem_ins {α : Type} (l : List α) (t : Nat) (c d : α) : d ∈ l.take t ++ [c] ++ l.drop t ↔ (d = c ∨ d ∈ l) := by
  have : d ∈ l ↔ d ∈ l.take t ∨ d ∈ l.drop t := by
    conv => lhs; rw [← List.take_append_drop t l]
    exact List.mem_append
  rw [this]
  simp only [List.mem_append, List.mem_singleton]
  constructor
  · rintro ((h | h) | h)
    · exact .inr (.inl h)
    · exact .inl h
    · exact .inr (.inr h)
  · rintro (h | h | h)
    · exact .inl (.inr h)
    · exact .inl (.inl h)
    · exact .inr h
theorem len_ins {α : Type} (l : List α) (t : Nat) (c : α) : (l.take t ++ [c] ++ l.drop t).length = l.length + 1 := by
  simp only [List.length_append, List.length_take, List.length_drop, List.length_singleton]; omega
def Added (l : List UInt8) (c : UInt8) (r : List UInt8) : Prop := Inc r ∧ (∀ d, d ∈ r ↔ (d = c ∨ d ∈ l)) ∧ (c ∈ l ∧ r = l ∨ r.length = l.length + 1)
theorem setAdd_ev (l : List UInt8) (hi : Inc l) (c : UInt8) : EvP (fun k => spec_l1Add k l ((c.toNat : Nat) : Int)) (Added l c) := by
  have hl := hi.le
  have eo : ofBytes [((c.toNat : Nat) : Int)] = [c] := by
    show [UInt8.ofNat (((c.toNat : Nat) : Int)).toNat] = [c]
    rw [Int.toNat_natCast]; simp
  have z : (0 : Int).toNat = 0 := rfl
  have fin : ∀ t, (∀ d ∈ l.take t, d.toNat < c.toNat) → (∀ d ∈ l.drop t, c.toNat < d.toNat) → Added l c (l.take t ++ [c] ++ l.drop t) := fun t h1 h2 => ⟨ins_ok UInt8.toNat hi h1 h2, mem_ins l t c, .inr (len_ins l t c)⟩
  have loop : ∀ (q t : Nat), t + q = l.length → (∀ d ∈ l.take t, d.toNat < c.toNat) → EvP (fun k => spec_l1Add_L28 k l ((c.toNat : Nat) : Int) (t : Int)) (Added l c) := by
    intro q
    induction q with
    | zero =>
      intro t ht hd
      refine EvP.fn (fun k => spec_l1Add_L28_eq k _ _ _) (EvP.decN (by omega) (EvP.decN (by omega) (EvP.yes (by omega) (EvP.yes (by omega) (EvP.yes (by omega) ?_)))))
      rw [eo, Int.toNat_natCast, Int.toNat_natCast, List.take_length, z, List.drop_zero]
      refine EvP.yes (by rw [List.length_take]; show _ + 1 < _; omega) (EvP.yes (by omega) (EvP.yes (by omega) (EvP.yes (by omega) (EvP.yes (by rw [List.length_append, List.length_take, List.length_drop]; show _ + 1 + _ < _; omega) (EvP.now (fin t hd fun d h => ?_))))))
      rw [List.drop_eq_nil_of_le (by omega)] at h; cases h
    | succ q ih =>
      intro t ht hd
      refine EvP.fn (fun k => spec_l1Add_L28_eq k _ _ _) (EvP.decY (by omega) (EvP.yes (by omega) (EvP.yes (by omega) ?_)))
      refine EvP.dec (fun h => ?_) (fun h => EvP.decY (by omega) (EvP.yes (by omega) (EvP.yes (by omega) (EvP.dec (fun h2 => EvP.now ?_) (fun h2 => EvP.yes (by omega) (EvP.yes (by omega) (EvP.yes (by omega) ?_)))))))
      · rw [w64 (by omega) (by omega)]
        rw [Int.toNat_natCast] at h
        exact ih (t + 1) (by omega) (take_up (fun d : UInt8 => d.toNat < c.toNat) 0 (by omega) hd (by omega))
      · rw [Int.toNat_natCast] at h2
        have : l.getD t 0 = c := UInt8.toNat_inj.1 (by omega)
        have hm : c ∈ l := by
          rw [← this]
          exact getD_mem l t 0 (by omega)
        exact ⟨hi, fun d => ⟨.inr, fun h => h.elim (fun e => by rw [e]; exact hm) id⟩, .inl ⟨hm, rfl⟩⟩
      · rw [Int.toNat_natCast] at h h2
        rw [eo, Int.toNat_natCast, Int.toNat_natCast, List.take_length, z, List.drop_zero]
        refine EvP.yes (by rw [List.length_take]; show _ + 1 < _; omega) (EvP.yes (by omega) (EvP.yes (by omega) (EvP.yes (by omega) (EvP.yes (by rw [List.length_append, List.length_take, List.length_drop]; show _ + 1 + _ < _; omega) (EvP.now (fin t hd (drop_up UInt8.toNat 0 hi (by omega) (by omega))))))))
  exact EvP.fn (fun k => spec_l1Add_eq k _ _) (loop l.length 0 (Nat.zero_add _) (fun d h => by cases h))
theorem setIn_ev (l : List UInt8) (hl : l.length ≤ 1000000) (c : UInt8) : EvP (fun k => spec_l1In k l ((c.toNat : Nat) : Int)) (fun r => r = l.contains c) := by
  have loop : ∀ (q t : Nat), t + q = l.length → EvP (fun k => spec_l1In_L26 k l ((c.toNat : Nat) : Int) (t : Int)) (fun r => r = (l.drop t).contains c) := by
    intro q
    induction q with
    | zero =>
      intro t ht
      refine EvP.fn (fun k => spec_l1In_L26_eq k _ _ _) (EvP.decN (by omega) (EvP.now ?_))
      rw [List.drop_eq_nil_of_le (by omega)]; rfl
    | succ q ih =>
      intro t ht
      refine EvP.fn (fun k => spec_l1In_L26_eq k _ _ _) (EvP.decY (by omega) (EvP.yes (by omega) (EvP.yes (by omega) ?_)))
      rw [Int.toNat_natCast, w64 (by omega) (by omega), drop_cons l t 0 (by omega)]
      refine EvP.dec (fun h => EvP.now ?_) (fun h => (ih (t + 1) (by omega)).mono fun r hr => ?_)
      · have : l.getD t 0 = c := UInt8.toNat_inj.1 (by omega)
        rw [this]; simp
      · have : ¬ c = l.getD t 0 := fun e => h (by rw [e])
        have e : (c == l.getD t 0) = false := by simpa using this
        rw [hr, List.contains_cons, e, Bool.false_or]
  exact EvP.fn (fun k => spec_l1In_eq k _ _) (loop l.length 0 (Nat.zero_add _))
theorem setAll_loop (q set : List UInt8) (hq : q.length ≤ 1000000) (hset : set.length ≤ 1000000) : ∀ (m t : Nat), t + m = q.length → EvP (fun k => spec_l2All_L26 k q set false (t : Int)) (fun r => True) := by
  intro m
  induction m with
  | zero =>
    intro t ht
    exact EvP.fn (fun k => spec_l2All_L26_eq k _ _ _ _) (EvP.decN (by omega) (EvP.now trivial))
  | succ m ih =>
    intro t ht
    have y : (t : Int) < (q.length : Int) := by omega
    refine EvP.fn (fun k => spec_l2All_L26_eq k _ _ _ _) (EvP.decY y (EvP.yes (by omega) (EvP.yes y ?_)))
    rw [Int.toNat_natCast, w64 (by omega) (by omega)]
    refine EvP.bind (setIn_ev set hset _) fun b hb => ?_
    exact EvP.ite (fun _ => EvP.no (by simp) (EvP.now trivial)) (fun _ => ih (t + 1) (by omega))
theorem setAll_ev (q set : List UInt8) (hq : q.length ≤ 1000000) (hset : set.length ≤ 1000000) : EvP (fun k => spec_l2All k q set false) (fun r => True) :=
  EvP.fn (fun k => spec_l2All_eq k _ _ _) (setAll_loop q set hq hset q.length 0 (Nat.zero_add _))
theorem setAll'_ev (q set : List UInt8) (hq : q.length ≤ 1000000) (hset : set.length ≤ 1000000) : EvP (fun k => spec_l2All' k q set) (fun r => True) :=
  EvP.fn (fun k => spec_l2All'_eq k _ _) (setAll_loop q set hq hset q.length 0 (Nat.zero_add _))
/-- A grammar that is right, seen from its parts. -/
def GFine (g : GramT) : Prop := (∃ c, g.1 = [c] ∧ big c = true) ∧ g.2.length ≤ 8 ∧ ∀ x ∈ g.2, (∃ c, x.1 = [c] ∧ big c = true) ∧ x.2.length ≤ 4 ∧ x.2.all sign = true
theorem one_big {s : List UInt8} (h : signBig s = true) : ∃ c, s = [c] ∧ big c = true := by
  match s, h with
  | [c], h => exact ⟨c, rfl, h⟩
theorem GFine.of {g : GramT} (h : GramOkP g) : GFine g := by
  refine ⟨one_big h.1, h.2.1, fun x hx => ?_⟩
  obtain ⟨j, hj, rfl⟩ := List.getElem_of_mem hx
  have := (h.2.2 j hj).1
  rw [List.getD_eq_getElem?_getD, List.getElem?_eq_getElem hj] at this
  simp only [ruleOk, Option.getD_some, Bool.and_eq_true, decide_eq_true_eq] at this
  exact ⟨one_big this.1, this.2.2, this.2.1⟩
theorem GFine.at {g : GramT} (h : GFine g) {i : Nat} (hi : i < g.2.length) : (∃ c, (g.2.getD i ([], [])).1 = [c] ∧ big c = true) ∧ (g.2.getD i ([], [])).2.length ≤ 4 ∧ (g.2.getD i ([], [])).2.all sign = true := h.2.2 _ (getD_mem _ _ _ hi)
theorem setGrow_ev (g : GramT) (hg : GFine g) : EvP (fun k => spec_l2Grow k g.1 g.2) Inc := by
  have hn := hg.2.1
  have loop : ∀ (m : Nat) (out : List UInt8), Inc out → 256 ≤ out.length + m → ∀ (n i : Nat), i + n = g.2.length → EvP (fun k => spec_l2Grow_L58 k false g out (i : Int)) Inc := by
    intro m
    induction m with
    | zero => ?_
    | succ m ihm => ?_
    all_goals
      intro out hi hm n
      have hl := hi.le
      induction n with
      | zero => intro i h; exact EvP.fn (fun k => spec_l2Grow_L58_eq k _ _ _ _) (EvP.decN (by omega) (EvP.now hi))
      | succ n ihn =>
        intro i h
        obtain ⟨⟨c, hc, hb⟩, h4, hs⟩ := hg.at (i := i) (by omega)
        have e1 : List.getD (g.2.getD i ([], [])).1 (Int.toNat 0) 0 = c := by rw [hc]; rfl
        have ep : IntKind.i64.wrap ((-1 : Int) + 1) = ((0 : Nat) : Int) := w64 (by omega) (by omega)
        have y : (0 : Int) < ((List.length (g.2.getD i ([], [])).1 : Nat) : Int) := by rw [hc]; show (0 : Int) < 1; omega
        have ei : ((i : Int) + 1) = ((i + 1 : Nat) : Int) := by omega
        refine EvP.fn (fun k => spec_l2Grow_L58_eq k _ _ _ _) (EvP.decY (by omega) (EvP.yes (by omega) (EvP.yes (by omega) (EvP.yes (by omega) ?_))))
        rw [Int.toNat_natCast, e1, w64 (x := (i : Int) + 1) (by omega) (by omega), ep, ei]
        refine EvP.yes y (EvP.bind (setIn_ev out (by omega) c) fun b hb' => ?_)
        subst hb'
        refine EvP.ite (fun hno => EvP.bind (setAll_ev _ out (by omega) (by omega)) fun a ha => ?_) (fun hyes => ihn (i + 1) (by omega))
        have hno : c ∉ out := by simpa using hno
        refine EvP.ite (fun hall => EvP.yes (by omega) (EvP.yes y (EvP.bind (setAdd_ev out hi c) fun r hr => ?_))) (fun _ => ihn (i + 1) (by omega))
        have hr2 : r.length = out.length + 1 := hr.2.2.elim (fun h => absurd h.1 hno) id
        have := hr.1.le
        first
          | (exfalso; omega)
          | exact ihm r hr.1 (by omega) g.2.length 0 (Nat.zero_add _)
  exact EvP.fn (fun k => spec_l2Grow_eq k _ _) (loop 256 [] List.Pairwise.nil (by simp) g.2.length 0 (Nat.zero_add _))
theorem setJoin_ev (b : List UInt8) (hb : b.length ≤ 1000) (a : List UInt8) (ha : Inc a) : EvP (fun k => spec_l2Join k a b) (fun r => Inc r ∧ (r = a ∨ a.length < r.length)) := by
  have loop : ∀ (n i : Nat) (r : List UInt8), i + n = b.length → Inc r → (r = a ∨ a.length < r.length) → EvP (fun k => spec_l2Join_L26 k r b (i : Int)) (fun r => Inc r ∧ (r = a ∨ a.length < r.length)) := by
    intro n
    induction n with
    | zero => intro i r h hr h2; exact EvP.fn (fun k => spec_l2Join_L26_eq k _ _ _) (EvP.decN (by omega) (EvP.now ⟨hr, h2⟩))
    | succ n ih =>
      intro i r h hr h2
      refine EvP.fn (fun k => spec_l2Join_L26_eq k _ _ _) (EvP.decY (by omega) (EvP.yes (by omega) (EvP.yes (by omega) ?_)))
      rw [Int.toNat_natCast, w64 (by omega) (by omega)]
      refine EvP.bind (setAdd_ev r hr _) fun s hs => ih (i + 1) s (by omega) hs.1 ?_
      rcases hs.2.2 with h3 | h3
      · rw [h3.2]; exact h2
      · rcases h2 with h2 | h2
        · right; rw [h3, h2]; omega
        · right; omega
  exact EvP.fn (fun k => spec_l2Join_eq k _ _) (loop b.length 0 a (Nat.zero_add _) ha (.inl rfl))
theorem big65 {c : UInt8} (h : big c = true) : 65 ≤ c.toNat ∧ c.toNat ≤ 69 := by
  unfold big at h
  simpa only [Bool.and_eq_true, decide_eq_true_eq] using h
theorem w65 {c : UInt8} (h : big c = true) : IntKind.i64.wrap (IntKind.u8.wrap ((c.toNat : Int) - 65)) = ((c.toNat - 65 : Nat) : Int) := by
  have := big65 h
  rw [w8 (by omega) (by omega), w64 (by omega) (by omega)]
  omega
def Fst (fs : List (List UInt8)) : Prop := fs.length = 5 ∧ ∀ x ∈ fs, Inc x
theorem Fst.at {fs : List (List UInt8)} (h : Fst fs) (i : Nat) (hi : i < 5) : Inc (fs.getD i []) := h.2 _ (getD_mem _ _ _ (by rw [h.1]; exact hi))
theorem setFirst_ev (fs : List (List UInt8)) (hf : Fst fs) (none' : List UInt8) (hn : none'.length ≤ 1000) (q : List UInt8) (hq : q.length ≤ 1000) (hs : q.all sign = true) : EvP (fun k => spec_l2First k fs none' q) Inc := by
  have h5 := hf.1
  have loop : ∀ (n i : Nat) (r : List UInt8), i + n = q.length → Inc r → EvP (fun k => spec_l2First_L58 k fs none' q r (i : Int)) Inc := by
    intro n
    induction n with
    | zero => intro i r h hr; exact EvP.fn (fun k => spec_l2First_L58_eq k _ _ _ _ _) (EvP.decN (by omega) (EvP.now hr))
    | succ n ih =>
      intro i r h hr
      have y : (i : Int) < (q.length : Int) := by omega
      refine EvP.fn (fun k => spec_l2First_L58_eq k _ _ _ _ _) (EvP.decY y (EvP.yes (by omega) (EvP.yes y ?_)))
      rw [Int.toNat_natCast, w64 (x := (i : Int) + 1) (by omega) (by omega)]
      have hsg := List.all_eq_true.1 hs _ (getD_mem q i 0 (by omega))
      generalize q.getD i 0 = c at hsg ⊢
      refine EvP.bind (l1Small_ev c) fun b hb => ?_
      subst hb
      refine EvP.ite (fun h1 => EvP.yes (by omega) (EvP.yes y (EvP.bind (setAdd_ev r hr c) fun s hs' => EvP.now hs'.1))) (fun h1 => EvP.yes (by omega) (EvP.yes y ?_))
      have hb : big c = true := by
        unfold sign at hsg
        rw [Bool.or_eq_true] at hsg
        exact hsg.elim id (fun h => absurd h h1)
      have h6 := big65 hb
      rw [w65 hb]
      refine EvP.yes (by omega) (EvP.yes (by rw [h5]; omega) ?_)
      rw [Int.toNat_natCast]
      have hF := hf.at (c.toNat - 65) (by omega)
      refine EvP.bind (setJoin_ev _ (by have := hF.le; omega) r hr) fun s hs' => EvP.yes (by omega) (EvP.yes y (EvP.bind (setIn_ev none' (by omega) c) fun b hb' => ?_))
      exact EvP.ite (fun _ => EvP.now hs'.1) (fun _ => ih (i + 1) s (by omega) hs'.1)
  exact EvP.fn (fun k => spec_l2First_eq k _ _ _) (loop q.length 0 [] (Nat.zero_add _) List.Pairwise.nil)
def tot (fs : List (List UInt8)) : Nat := (fs.map List.length).sum
theorem tot_set : ∀ (fs : List (List UInt8)) (k : Nat) (x : List UInt8), k < fs.length → tot (fs.set k x) + (fs.getD k []).length = tot fs + x.length
  | a :: t, 0, x, _ => by
    show x.length + tot t + a.length = (a.length + tot t) + x.length; omega
  | a :: t, k + 1, x, h => by
    have := tot_set t k x (by simpa using h)
    show a.length + tot (t.set k x) + (t.getD k []).length = (a.length + tot t) + x.length; omega
theorem tot_le : ∀ (fs : List (List UInt8)), (∀ x ∈ fs, Inc x) → tot fs ≤ 256 * fs.length
  | [], _ => Nat.le_refl _
  | a :: t, h => by
    have h1 := (h a (List.mem_cons_self ..)).le
    have h2 := tot_le t fun x hx => h x (List.mem_cons_of_mem _ hx)
    rw [List.length_cons]
    show a.length + tot t ≤ _; omega
theorem Fst.le {fs : List (List UInt8)} (h : Fst fs) : tot fs ≤ 1280 := by have := tot_le fs h.2; rw [h.1] at this; omega
theorem Fst.set {fs : List (List UInt8)} (h : Fst fs) (k : Nat) {x : List UInt8} (hx : Inc x) : Fst (fs.set k x) := by
  refine ⟨by rw [List.length_set]; exact h.1, fun y hy => ?_⟩
  rcases List.mem_or_eq_of_mem_set hy with h' | h'
  · exact h.2 y h'
  · rw [h']; exact hx
theorem setFirsts_ev (g : GramT) (hg : GFine g) : EvP (fun k => spec_l2Firsts k g.1 g.2) Fst := by
  have hn := hg.2.1
  have loop (nn : List UInt8) (hnn : nn.length ≤ 1000) : ∀ (m : Nat) (fs : List (List UInt8)), Fst fs → 1280 ≤ tot fs + m → ∀ (n i : Nat), i + n = g.2.length → EvP (fun k => spec_l2Firsts_L122 k g nn fs (i : Int)) Fst := by
    intro m
    induction m with
    | zero => ?_
    | succ m ihm => ?_
    all_goals
      intro fs hf hm n
      have h5 := hf.1
      induction n with
      | zero => intro i h; exact EvP.fn (fun k => spec_l2Firsts_L122_eq k _ _ _ _) (EvP.decN (by omega) (EvP.now hf))
      | succ n ihn =>
        intro i h
        obtain ⟨⟨c, hc, hb⟩, h4, hs⟩ := hg.at (i := i) (by omega)
        have h6 := big65 hb
        have e1 : List.getD (g.2.getD i ([], [])).1 (Int.toNat 0) 0 = c := by rw [hc]; rfl
        have ep : IntKind.i64.wrap ((-1 : Int) + 1) = ((0 : Nat) : Int) := w64 (by omega) (by omega)
        have y : (0 : Int) < ((List.length (g.2.getD i ([], [])).1 : Nat) : Int) := by rw [hc]; show (0 : Int) < 1; omega
        have ei : ((i : Int) + 1) = ((i + 1 : Nat) : Int) := by omega
        have z0 : (0 : Int) ≤ ((c.toNat - 65 : Nat) : Int) := by omega
        have z5 : ((c.toNat - 65 : Nat) : Int) < (fs.length : Int) := by rw [h5]; omega
        refine EvP.fn (fun k => spec_l2Firsts_L122_eq k _ _ _ _) (EvP.decY (by omega) (EvP.yes (by omega) (EvP.yes (by omega) (EvP.yes (by omega) ?_))))
        rw [Int.toNat_natCast, e1, w64 (x := (i : Int) + 1) (by omega) (by omega), ep, ei, w65 hb, Int.toNat_natCast]
        have hF := hf.at (c.toNat - 65) (by omega)
        refine EvP.yes y (EvP.yes z0 (EvP.yes z5 (EvP.yes (by omega) (EvP.yes (by omega) (EvP.bind (setFirst_ev fs hf nn hnn _ (by omega) hs) fun a ha => EvP.bind (setJoin_ev a (by have := ha.le; omega) _ hF) fun r hr => EvP.yes z0 (EvP.yes z5 ?_))))))
        refine EvP.notT (fun hne => EvP.yes z0 (EvP.yes z5 ?_)) (fun _ => ihn (i + 1) (by omega))
        have hlt := hr.2.resolve_left hne
        have ht := tot_set fs (c.toNat - 65) r (by omega)
        have hF2 := hf.set (c.toNat - 65) hr.1
        have := hF2.le
        first
          | (exfalso; omega)
          | exact ihm _ hF2 (by omega) g.2.length 0 (Nat.zero_add _)
  have e5 : Fst (List.replicate (Int.toNat (5 : Int)) ([] : List UInt8)) := ⟨rfl, fun x hx => by rw [List.eq_of_mem_replicate hx]; exact List.Pairwise.nil⟩
  exact EvP.fn (fun k => spec_l2Firsts_eq k _ _) (EvP.bind (setGrow_ev g hg) fun nn hnn => EvP.yes rfl (EvP.yes (by omega) (EvP.yes (by show (5 : Int) < ((maxLenE : Nat) : Int); unfold maxLenE; omega) (loop nn (by have := Inc.le hnn; omega) 1280 _ e5 (by omega) g.2.length 0 (Nat.zero_add _)))))
/-- All signs of a grammar. -/
def SignsP (b : Bool) (g : GramT) (r : List UInt8) : Prop := Inc r ∧ ∀ d ∈ g.1, big d = b → d ∈ r
theorem signs_loop (g : GramT) (hg : GFine g) (b : Bool) : EvP (fun k => spec_l1Signs_L122 k b g [] g.1 (0 : Int)) (SignsP b g) := by
  have hn := hg.2.1
  have pick (t : List UInt8) (ht : t.length ≤ 1000) (hsub : ∀ d ∈ g.1, d ∈ t) : ∀ (n i : Nat) (r : List UInt8), i + n = t.length → Inc r → (∀ d ∈ t.take i, big d = b → d ∈ r) → EvP (fun k => spec_l1Signs_L250 k b r t (i : Int)) (SignsP b g) := by
    intro n
    induction n with
    | zero =>
      intro i r h hr hd
      rw [List.take_of_length_le (by omega)] at hd
      exact EvP.fn (fun k => spec_l1Signs_L250_eq k _ _ _ _) (EvP.decN (by omega) (EvP.now ⟨hr, fun d h1 h2 => hd d (hsub d h1) h2⟩))
    | succ n ih =>
      intro i r h hr hd
      have y : (i : Int) < (t.length : Int) := by omega
      refine EvP.fn (fun k => spec_l1Signs_L250_eq k _ _ _ _) (EvP.decY y (EvP.yes (by omega) (EvP.yes y ?_)))
      rw [Int.toNat_natCast, w64 (by omega) (by omega)]
      refine EvP.bind (l1Big_ev _) fun x hx => ?_
      subst hx
      refine EvP.dec (fun hx => EvP.yes (by omega) (EvP.yes y (EvP.bind (setAdd_ev r hr _) fun s hs => ih (i + 1) s (by omega) hs.1 (take_up (fun d => big d = b → d ∈ s) 0 (by omega) (fun d h1 h2 => (hs.2.1 d).2 (.inr (hd d h1 h2))) fun _ => (hs.2.1 _).2 (.inl rfl))))) (fun hx => ih (i + 1) r (by omega) hr (take_up (fun d => big d = b → d ∈ r) 0 (by omega) hd fun h => absurd h hx))
  have loop : ∀ (n i : Nat) (t : List UInt8), i + n = g.2.length → t.length ≤ 5 + 5 * i → (∀ d ∈ g.1, d ∈ t) → EvP (fun k => spec_l1Signs_L122 k b g [] t (i : Int)) (SignsP b g) := by
    intro n
    induction n with
    | zero =>
      intro i t h ht hs
      exact EvP.fn (fun k => spec_l1Signs_L122_eq k _ _ _ _ _) (EvP.decN (by omega) (pick t (by omega) hs t.length 0 [] (Nat.zero_add _) List.Pairwise.nil fun d h => by cases h))
    | succ n ih =>
      intro i t h ht hs
      obtain ⟨⟨c, hc, hb⟩, h4, _⟩ := hg.at (i := i) (by omega)
      have h1 : (g.2.getD i ([], [])).1.length = 1 := by rw [hc]; rfl
      refine EvP.fn (fun k => spec_l1Signs_L122_eq k _ _ _ _ _) (EvP.decY (by omega) (EvP.yes (by omega) (EvP.yes (by omega) ?_)))
      rw [Int.toNat_natCast, w64 (by omega) (by omega)]
      exact EvP.yes (by omega) (EvP.yes (by omega) (EvP.yes (by omega) (EvP.yes (by rw [List.length_append]; omega) (ih (i + 1) _ (by omega) (by rw [List.length_append, List.length_append]; omega) fun d hd => List.mem_append_left _ (List.mem_append_left _ (hs d hd))))))
  obtain ⟨c, hc, _⟩ := hg.1
  exact loop g.2.length 0 g.1 (Nat.zero_add _) (by rw [hc]; show 1 ≤ _; omega) fun d h => h
theorem l5Signs_ev (g : GramT) (hg : GFine g) : EvP (fun k => spec_l5Signs k g.1 g.2) (fun r => r.length ≤ 512 ∧ r ≠ []) := by
  refine EvP.fn (fun k => spec_l5Signs_eq k _ _) (EvP.bind (EvP.fn (fun k => spec_l1Signs_eq k _ _) (signs_loop g hg true)) fun a ha => EvP.bind (EvP.fn (fun k => spec_l1Signs'_eq k _ _) (signs_loop g hg false)) fun b hb => ?_)
  have h1 := ha.1.le
  have h2 := hb.1.le
  refine EvP.yes (by omega) (EvP.now ⟨by rw [List.length_append]; omega, fun e => ?_⟩)
  obtain ⟨c, hc, hcb⟩ := hg.1
  have := ha.2 c (by rw [hc]; exact List.mem_singleton.2 rfl) hcb
  rw [List.append_eq_nil_iff] at e
  rw [e.1] at this; cases this
/-! items in order -/
abbrev ItT := Int × Int × List UInt8
def rightOf (g : GramT) (r : Int) : List UInt8 := if r < 0 then g.1 else (g.2.getD r.toNat ([], [])).2
structure Itm (g : GramT) (x : ItT) : Prop where
  lo : -1 ≤ x.1
  hi : x.1 < g.2.length
  dot : 0 ≤ x.2.1
  len : x.2.1 ≤ (rightOf g x.1).length
  one : ∃ c, x.2.2 = [c]
theorem GFine.right {g : GramT} (h : GFine g) {r : Int} (h1 : -1 ≤ r) (h2 : r < g.2.length) : (rightOf g r).length ≤ 4 ∧ (rightOf g r).all sign = true := by
  unfold rightOf
  split
  · obtain ⟨c, hc, hb⟩ := h.1
    rw [hc]
    refine ⟨by show 1 ≤ 4; omega, ?_⟩
    simp [sign, hb]
  · exact (h.at (i := r.toNat) (by omega)).2
def itKey (x : ItT) : Nat := ((x.1 + 1).toNat * 5 + x.2.1.toNat) * 256 + (x.2.2.getD 0 0).toNat
def Its (g : GramT) (l : List ItT) : Prop := (l.Pairwise fun a b => itKey a < itKey b) ∧ ∀ x ∈ l, Itm g x
theorem Itm.key {g : GramT} (hg : GFine g) {x : ItT} (h : Itm g x) : itKey x < 11520 := by
  have h1 := (hg.right h.lo h.hi).1
  have h2 := h.len
  have h3 := hg.2.1
  have h4 := h.hi
  have h5 := (x.2.2.getD 0 0).toNat_lt
  unfold itKey
  have h6 : (x.2.2.getD 0 0).toNat < 256 := h5
  omega
theorem Its.le {g : GramT} (hg : GFine g) {l : List ItT} (h : Its g l) : l.length ≤ 11520 :=
  inc_len itKey 11520 l 0 h.1 (fun x hx => ⟨Nat.zero_le _, (h.2 x hx).key hg⟩) (Nat.zero_le _)
theorem Its.nil (g : GramT) : Its g [] := ⟨List.Pairwise.nil, fun x h => by cases h⟩
theorem right_ev (g : GramT) (r : Int) (h : r < g.2.length) : EvP (fun k => spec_l5Right k g.1 g.2 r) (fun x => x = rightOf g r) :=
  EvP.fn (fun k => spec_l5Right_eq k _ _ _) (EvP.dec (fun h1 => EvP.now (by unfold rightOf; rw [if_pos h1])) (fun h1 => EvP.yes (by omega) (EvP.yes h (EvP.now (by unfold rightOf; rw [if_neg h1])))))
def NextP (g : GramT) (x : ItT) (r : List UInt8) : Prop := ((rightOf g x.1).length ≤ x.2.1 ∧ r = []) ∨ (x.2.1 < (rightOf g x.1).length ∧ r = [(rightOf g x.1).getD x.2.1.toNat 0])
theorem next_ev (g : GramT) (hg : GFine g) (x : ItT) (hx : Itm g x) : EvP (fun k => spec_l5Next k g.1 g.2 x.1 x.2.1 x.2.2) (NextP g x) := by
  refine EvP.fn (fun k => spec_l5Next_eq k _ _ _ _ _) (EvP.bind (right_ev g x.1 hx.hi) fun a ha => ?_)
  subst ha
  have h4 := (hg.right hx.lo hx.hi).1
  have hd := hx.dot
  refine EvP.dec (fun h => EvP.now (.inl ⟨h, rfl⟩)) (fun h => ?_)
  rw [w64 (by omega) (by omega)]
  refine EvP.yes hd (EvP.yes (by omega) (EvP.yes (by omega) (EvP.now (.inr ⟨by omega, ?_⟩))))
  rw [show (x.2.1 + 1).toNat = x.2.1.toNat + 1 by omega]
  exact one_sg _ _ (by omega)
def LookP (l : List UInt8 × List (List UInt8)) : Prop := Inc l.1 ∧ Fst l.2
theorem look_ev (g : GramT) (hg : GFine g) : EvP (fun k => spec_l5Look k g.1 g.2) LookP :=
  EvP.fn (fun k => spec_l5Look_eq k _ _) (EvP.bind (setGrow_ev g hg) fun a ha => EvP.bind (setFirsts_ev g hg) fun b hb => EvP.now ⟨ha, hb⟩)
theorem behind_ev (g : GramT) (hg : GFine g) (l : List UInt8 × List (List UInt8)) (hl : LookP l) (x : ItT) (hx : Itm g x) (hd : x.2.1 < (rightOf g x.1).length) : EvP (fun k => spec_l5Behind k g.1 g.2 l.1 l.2 x.1 x.2.1 x.2.2) Inc := by
  refine EvP.fn (fun k => spec_l5Behind_eq k _ _ _ _ _ _ _) (EvP.bind (right_ev g x.1 hx.hi) fun a ha => ?_)
  subst ha
  obtain ⟨h4, hs⟩ := hg.right hx.lo hx.hi
  have hd0 := hx.dot
  have hn := Inc.le hl.1
  rw [w64 (by omega) (by omega), Int.toNat_natCast, List.take_length]
  have hq : (List.drop (x.2.1 + 1).toNat (rightOf g x.1)).length ≤ 1000 := by rw [List.length_drop]; omega
  have hqs : (List.drop (x.2.1 + 1).toNat (rightOf g x.1)).all sign = true := by
    rw [List.all_eq_true] at hs ⊢
    exact fun y hy => hs y (List.mem_of_mem_drop hy)
  refine EvP.yes (by omega) (EvP.yes (by omega) (EvP.yes (by omega) (EvP.bind (setFirst_ev l.2 hl.2 l.1 (by omega) _ hq hqs) fun a ha => EvP.bind (setAll'_ev _ l.1 (by omega) (by omega)) fun b _ => ?_)))
  refine EvP.ite (fun _ => EvP.yes (by omega) (EvP.yes ?_ (EvP.bind (setAdd_ev a ha _) fun r hr => EvP.now hr.1))) (fun _ => EvP.now ha)
  obtain ⟨c, hc⟩ := hx.one
  rw [hc]; show (0 : Int) < 1; omega
theorem less_ev (g : GramT) (hg : GFine g) (x y : ItT) (hx : Itm g x) (hy : Itm g y) : EvP (fun k => spec_l5Less k x.1 x.2.1 x.2.2 y.1 y.2.1 y.2.2) (fun r => r = decide (itKey x < itKey y)) := by
  obtain ⟨a, ha⟩ := hx.one
  obtain ⟨b, hb⟩ := hy.one
  have x1 := hx.lo
  have y1 := hy.lo
  have x2 := hx.dot
  have y2 := hy.dot
  have x3 := (hg.right hx.lo hx.hi).1
  have y3 := (hg.right hy.lo hy.hi).1
  have x4 := hx.len
  have y4 := hy.len
  have a256 : a.toNat < 256 := a.toNat_lt
  have b256 : b.toNat < 256 := b.toNat_lt
  have kx : itKey x = ((x.1 + 1).toNat * 5 + x.2.1.toNat) * 256 + a.toNat := by unfold itKey; rw [ha]; rfl
  have ky : itKey y = ((y.1 + 1).toNat * 5 + y.2.1.toNat) * 256 + b.toNat := by unfold itKey; rw [hb]; rfl
  refine EvP.fn (fun k => spec_l5Less_eq k _ _ _ _ _ _) (EvP.notT (fun h => EvP.now (decide_eq_decide.2 (by rw [kx, ky]; omega))) (fun h => EvP.notT (fun h2 => EvP.now (decide_eq_decide.2 (by rw [kx, ky]; omega))) (fun h2 => EvP.now ?_)))
  rw [ha, hb]
  have e : Go.Op.bytesLess [a] [b] = decide (a < b) := by
    show (decide (a < b) || (a == b && false)) = decide (a < b)
    rw [Bool.and_false, Bool.or_false]
  rw [e]
  refine decide_eq_decide.2 ?_
  rw [kx, ky, UInt8.lt_iff_toNat_lt]
  omega
theorem key_eq {g : GramT} (hg : GFine g) {x y : ItT} (hx : Itm g x) (hy : Itm g y) (h : itKey x = itKey y) : x = y := by
  obtain ⟨a, ha⟩ := hx.one
  obtain ⟨b, hb⟩ := hy.one
  have x1 := hx.lo
  have y1 := hy.lo
  have x2 := hx.dot
  have y2 := hy.dot
  have x3 := (hg.right hx.lo hx.hi).1
  have y3 := (hg.right hy.lo hy.hi).1
  have x4 := hx.len
  have y4 := hy.len
  have a256 : a.toNat < 256 := a.toNat_lt
  have b256 : b.toNat < 256 := b.toNat_lt
  have kx : itKey x = ((x.1 + 1).toNat * 5 + x.2.1.toNat) * 256 + a.toNat := by unfold itKey; rw [ha]; rfl
  have ky : itKey y = ((y.1 + 1).toNat * 5 + y.2.1.toNat) * 256 + b.toNat := by unfold itKey; rw [hb]; rfl
  rw [kx, ky] at h
  have e1 : x.1 = y.1 := by omega
  have e2 : x.2.1 = y.2.1 := by omega
  have e3 : a = b := UInt8.toNat_inj.1 (by omega)
  exact Prod.ext e1 (Prod.ext e2 (by rw [ha, hb, e3]))
def ItAdded (g : GramT) (l : List ItT) (x : ItT) (r : List ItT) : Prop := Its g r ∧ (∀ y, y ∈ r ↔ (y = x ∨ y ∈ l)) ∧ (x ∈ l ∧ r = l ∨ r.length = l.length + 1)
theorem itAdd_ev (g : GramT) (hg : GFine g) (l : List ItT) (hl : Its g l) (x : ItT) (hx : Itm g x) : EvP (fun k => spec_l5Add k l x.1 x.2.1 x.2.2) (ItAdded g l x) := by
  have hn := hl.le hg
  have z : (0 : Int).toNat = 0 := rfl
  have fin : ∀ t, (∀ d ∈ l.take t, itKey d < itKey x) → (∀ d ∈ l.drop t, itKey x < itKey d) → ItAdded g l x (l.take t ++ [x] ++ l.drop t) := fun t h1 h2 =>
    ⟨⟨ins_ok itKey hl.1 h1 h2, fun y hy => ((mem_ins l t x y).1 hy).elim (fun e => by rw [e]; exact hx) (hl.2 y)⟩, mem_ins l t x, .inr (len_ins l t x)⟩
  have loop : ∀ (q t : Nat), t + q = l.length → (∀ d ∈ l.take t, itKey d < itKey x) → EvP (fun k => spec_l5Add_L28 k l x (t : Int)) (ItAdded g l x) := by
    intro q
    induction q with
    | zero =>
      intro t ht hd
      refine EvP.fn (fun k => spec_l5Add_L28_eq k _ _ _) (EvP.decN (by omega) (EvP.decN (by omega) (EvP.yes (by omega) (EvP.yes (by omega) (EvP.yes (by omega) ?_)))))
      rw [Int.toNat_natCast, Int.toNat_natCast, List.take_length, z, List.drop_zero]
      refine EvP.yes (ltM (by rw [List.length_drop]; omega)) (EvP.yes (by omega) (EvP.yes (by omega) (EvP.yes (by omega) (EvP.yes (ltM (by rw [List.length_take]; omega)) (EvP.yes (ltM (by rw [List.length_take]; show _ + 1 ≤ _; omega)) (EvP.yes (ltM (by rw [List.length_append, List.length_take, List.length_drop]; show _ + 1 + _ ≤ _; omega)) (EvP.now (fin t hd fun d h => ?_))))))))
      rw [List.drop_eq_nil_of_le (by omega)] at h; cases h
    | succ q ih =>
      intro t ht hd
      refine EvP.fn (fun k => spec_l5Add_L28_eq k _ _ _) (EvP.decY (by omega) (EvP.yes (by omega) (EvP.yes (by omega) ?_)))
      rw [Int.toNat_natCast, w64 (by omega) (by omega)]
      have hm := getD_mem l t ((0 : Int), (0 : Int), ([] : List UInt8)) (by omega)
      refine EvP.bind (less_ev g hg _ x (hl.2 _ hm) hx) fun b hb => ?_
      subst hb
      refine EvP.dec (fun h => ih (t + 1) (by omega) (take_up (fun d => itKey d < itKey x) ((0 : Int), (0 : Int), ([] : List UInt8)) (by omega) hd h)) (fun h => EvP.decY (by omega) (EvP.yes (by omega) (EvP.yes (by omega) (EvP.ite (fun h2 => EvP.now ?_) (fun h2 => EvP.yes (by omega) (EvP.yes (by omega) (EvP.yes (by omega) ?_)))))))
      · rw [Bool.and_eq_true, Bool.and_eq_true, decide_eq_true_eq, decide_eq_true_eq, decide_eq_true_eq] at h2
        have e : l.getD t ((0 : Int), (0 : Int), ([] : List UInt8)) = x := Prod.ext h2.1 (Prod.ext h2.2.1 h2.2.2)
        rw [e] at hm
        exact ⟨hl, fun d => ⟨.inr, fun h => h.elim (fun e => by rw [e]; exact hm) id⟩, .inl ⟨hm, rfl⟩⟩
      · have hne : itKey (l.getD t ((0 : Int), (0 : Int), ([] : List UInt8))) ≠ itKey x := fun e => h2 (by
          rw [key_eq hg (hl.2 _ hm) hx e]; simp)
        rw [Int.toNat_natCast, List.take_length, z, List.drop_zero]
        refine EvP.yes (ltM (by rw [List.length_drop]; omega)) (EvP.yes (by omega) (EvP.yes (by omega) (EvP.yes (by omega) (EvP.yes (ltM (by rw [List.length_take]; omega)) (EvP.yes (ltM (by rw [List.length_take]; show _ + 1 ≤ _; omega)) (EvP.yes (ltM (by rw [List.length_append, List.length_take, List.length_drop]; show _ + 1 + _ ≤ _; omega)) (EvP.now (fin t hd (drop_up itKey ((0 : Int), (0 : Int), ([] : List UInt8)) hl.1 (by omega) (by omega))))))))))
  exact EvP.fn (fun k => spec_l5Add_eq k _ _ _ _) (loop l.length 0 (Nat.zero_add _) (fun d h => by cases h))
theorem signBig_nil : signBig [] = false := rfl
structure CloseI (g : GramT) (N M : Nat) (out todo : List ItT) : Prop where
  its : Its g out
  big : N ≤ out.length
  good : ∀ x ∈ todo, Itm g x
  le : todo.length ≤ out.length
  m : 2 * (11520 - out.length) + todo.length ≤ M
theorem ahead_loop (g : GramT) (hg : GFine g) (l : List UInt8 × List (List UInt8)) {N M : Nat} {Q : List ItT → Prop} (ahead : List UInt8) (ha : ahead.length ≤ 1000) (at' : List Int) (hat : ∀ j ∈ at', 0 ≤ j ∧ j < g.2.length) (hatl : at'.length ≤ 1000) (i : Nat) (hi : i < at'.length)
    (hnext : ∀ out todo, CloseI g N M out todo → EvP (fun k => spec_l5Close_L123646 k g l out todo ahead at' ((i + 1 : Nat) : Int)) Q) :
    ∀ (n t : Nat) (out todo : List ItT), t + n = ahead.length → CloseI g N M out todo → EvP (fun k => spec_l5Close_L7913362 k g l out todo ahead at' (i : Int) (t : Int)) Q := by
  intro n
  have ei : IntKind.i64.wrap ((i : Int) + 1) = ((i + 1 : Nat) : Int) := w64 (by omega) (by omega)
  induction n with
  | zero =>
    intro t out todo ht hI
    refine EvP.fn (fun k => spec_l5Close_L7913362_eq k _ _ _ _ _ _ _ _) (EvP.decN (by omega) ?_)
    rw [ei]
    exact hnext out todo hI
  | succ n ih =>
    intro t out todo ht hI
    refine EvP.fn (fun k => spec_l5Close_L7913362_eq k _ _ _ _ _ _ _ _) (EvP.decY (by omega) (EvP.yes (by omega) (EvP.yes (by omega) (EvP.yes (by omega) ?_))))
    have et : IntKind.i64.wrap ((t : Int) + 1) = ((t + 1 : Nat) : Int) := w64 (by omega) (by omega)
    rw [et, Int.toNat_natCast, Int.toNat_natCast, Int.toNat_natCast, one_sg ahead t (by omega)]
    have hj := hat _ (getD_mem at' i 0 hi)
    have hx : Itm g (at'.getD i 0, (0 : Int), [ahead.getD t 0]) := ⟨by show -1 ≤ at'.getD i 0; omega, hj.2, by show (0 : Int) ≤ 0; omega, by show (0 : Int) ≤ _; omega, ⟨_, rfl⟩⟩
    refine EvP.yes (by omega) (EvP.yes (by omega) (EvP.bind (itAdd_ev g hg out hI.its _ hx) fun r hr => ?_))
    have h1 := hr.1.le hg
    have h2 := hI.le
    have h3 := hI.m
    refine EvP.dec (fun h => EvP.yes (ltM (by show todo.length + 1 ≤ _; omega)) (ih (t + 1) r _ (by omega) ⟨hr.1, ?_, fun y hy => ?_, ?_, ?_⟩)) (fun h => ih (t + 1) r todo (by omega) ⟨hr.1, ?_, hI.good, ?_, ?_⟩)
    · have := hI.big; omega
    · rcases List.mem_append.1 hy with hy | hy
      · exact hI.good y hy
      · rw [List.mem_singleton.1 hy]; exact hx
    · rw [List.length_append]; show todo.length + 1 ≤ r.length; omega
    · rw [List.length_append]; show 2 * (11520 - r.length) + (todo.length + 1) ≤ M; omega
    · have := hI.big
      rcases hr.2.2 with h' | h'
      · rw [h'.2]; exact this
      · omega
    · rcases hr.2.2 with h' | h'
      · rw [h'.2]; exact h2
      · omega
    · rcases hr.2.2 with h' | h'
      · rw [h'.2]; exact h3
      · omega
theorem at_loop (g : GramT) (hg : GFine g) (l : List UInt8 × List (List UInt8)) {N M : Nat} {Q : List ItT → Prop} (ahead : List UInt8) (ha : ahead.length ≤ 1000) (at' : List Int) (hat : ∀ j ∈ at', 0 ≤ j ∧ j < g.2.length) (hatl : at'.length ≤ 1000)
    (hnext : ∀ out todo, CloseI g N M out todo → EvP (fun k => spec_l5Close_L60 k g l out todo) Q) :
    ∀ (n i : Nat) (out todo : List ItT), i + n = at'.length → CloseI g N M out todo → EvP (fun k => spec_l5Close_L123646 k g l out todo ahead at' (i : Int)) Q := by
  intro n
  induction n with
  | zero =>
    intro i out todo h hI
    exact EvP.fn (fun k => spec_l5Close_L123646_eq k _ _ _ _ _ _ _) (EvP.decN (by omega) (hnext out todo hI))
  | succ n ih =>
    intro i out todo h hI
    exact EvP.fn (fun k => spec_l5Close_L123646_eq k _ _ _ _ _ _ _) (EvP.decY (by omega) (ahead_loop g hg l ahead ha at' hat hatl i (by omega) (fun o t hI' => ih (i + 1) o t (by omega) hI') ahead.length 0 out todo (Nat.zero_add _) hI))
theorem close_loop (g : GramT) (hg : GFine g) (l : List UInt8 × List (List UInt8)) (hl : LookP l) (N : Nat) : ∀ (M : Nat) (out todo : List ItT), CloseI g N M out todo → EvP (fun k => spec_l5Close_L60 k g l out todo) (fun r => Its g r ∧ N ≤ r.length) := by
  intro M
  induction M with
  | zero =>
    intro out todo hI
    have := hI.m
    exact EvP.fn (fun k => spec_l5Close_L60_eq k _ _ _ _) (EvP.decN (by omega) (EvP.now ⟨hI.its, hI.big⟩))
  | succ M ih =>
    intro out todo hI
    cases todo with
    | nil => exact EvP.fn (fun k => spec_l5Close_L60_eq k _ _ _ _) (EvP.decN (by simp) (EvP.now ⟨hI.its, hI.big⟩))
    | cons x rest =>
      have hx := hI.good x (List.mem_cons_self ..)
      have h1 := hI.le
      have h2 := hI.m
      rw [List.length_cons] at h1 h2
      have hI' : CloseI g N M out rest := ⟨hI.its, hI.big, fun y hy => hI.good y (List.mem_cons_of_mem _ hy), by omega, by omega⟩
      have z : (0 : Int).toNat = 0 := rfl
      have z1 : (1 : Int).toNat = 1 := rfl
      refine EvP.fn (fun k => spec_l5Close_L60_eq k _ _ _ _) ?_
      rw [z, z1]
      have eL : (((x :: rest).length : Nat) : Int) = (rest.length : Int) + 1 := by rw [List.length_cons]; omega
      rw [eL]
      refine EvP.decY (by omega) (EvP.yes (by omega) (EvP.yes (by omega) (EvP.yes (by omega) (EvP.yes (by omega) (EvP.bind (next_ev g hg x hx) fun s hs => EvP.bind (specSignBig_ev s) fun b hb => ?_)))))
      subst hb
      refine EvP.ite (fun _ => ih out rest hI') (fun hb => ?_)
      rcases hs with ⟨_, rfl⟩ | ⟨hlt, rfl⟩
      · exact absurd rfl hb
      · refine EvP.bind (behind_ev g hg l hl x hx hlt) fun a ha => EvP.bind (for_ev g (by have := hg.2.1; omega) _) fun r hr => ?_
        have h256 := Inc.le ha
        have h8 := hg.2.1
        exact at_loop g hg l a (by omega) r hr.2 (by have := hr.1; omega) ih r.length 0 out rest (Nat.zero_add _) hI'
theorem close_ev (g : GramT) (hg : GFine g) (l : List UInt8 × List (List UInt8)) (hl : LookP l) (out : List ItT) (ho : Its g out) : EvP (fun k => spec_l5Close k g.1 g.2 l.1 l.2 out) (fun r => Its g r ∧ out.length ≤ r.length) := by
  have hn := ho.le hg
  exact EvP.fn (fun k => spec_l5Close_eq k _ _ _ _ _) (EvP.yes (ltM (by omega)) (EvP.yes (ltM (by omega)) (close_loop g hg l hl out.length 34560 out out ⟨ho, Nat.le_refl _, ho.2, Nat.le_refl _, by omega⟩)))
theorem first_its (g : GramT) : Its g [((-1 : Int), (0 : Int), ([36] : List UInt8))] := by
  refine ⟨List.pairwise_singleton _ _, fun x hx => ?_⟩
  rw [List.mem_singleton.1 hx]
  exact ⟨by show (-1 : Int) ≤ -1; omega, by show (-1 : Int) < (g.2.length : Int); omega, by show (0 : Int) ≤ 0; omega, by show (0 : Int) ≤ _; omega, ⟨36, rfl⟩⟩
theorem move_ev (g : GramT) (hg : GFine g) (l : List UInt8 × List (List UInt8)) (hl : LookP l) (list : List ItT) (hi : Its g list) (c : UInt8) : EvP (fun k => spec_l5Move k g.1 g.2 l.1 l.2 list [c]) (Its g) := by
  have hn := hi.le hg
  have loop : ∀ (n i : Nat) (out : List ItT), i + n = list.length → Its g out → EvP (fun k => spec_l5Move_L58 k list [c] g l out (i : Int)) (Its g) := by
    intro n
    induction n with
    | zero =>
      intro i out h ho
      exact EvP.fn (fun k => spec_l5Move_L58_eq k _ _ _ _ _ _) (EvP.decN (by omega) (EvP.bind (close_ev g hg l hl out ho) fun r hr => EvP.now hr.1))
    | succ n ih =>
      intro i out h ho
      have y : (i : Int) < (list.length : Int) := by omega
      refine EvP.fn (fun k => spec_l5Move_L58_eq k _ _ _ _ _ _) (EvP.decY y (EvP.yes (by omega) (EvP.yes y ?_)))
      rw [Int.toNat_natCast, w64 (x := (i : Int) + 1) (by omega) (by omega)]
      have hx := hi.2 _ (getD_mem list i ((0 : Int), (0 : Int), ([] : List UInt8)) (by omega))
      generalize list.getD i ((0 : Int), (0 : Int), ([] : List UInt8)) = x at hx ⊢
      refine EvP.bind (next_ev g hg x hx) fun s hs => EvP.dec (fun he => ?_) (fun _ => ih (i + 1) out (by omega) ho)
      rcases hs with ⟨_, hs⟩ | ⟨hlt, hs⟩
      · rw [hs] at he; cases he
      · have h4 := (hg.right hx.lo hx.hi).1
        have hd := hx.dot
        rw [w64 (by omega) (by omega)]
        have hx' : Itm g (x.1, x.2.1 + 1, x.2.2) := ⟨hx.lo, hx.hi, by show 0 ≤ x.2.1 + 1; omega, by show x.2.1 + 1 ≤ ((rightOf g x.1).length : Int); omega, hx.one⟩
        exact EvP.yes (by omega) (EvP.yes y (EvP.yes (by omega) (EvP.yes y (EvP.yes (by omega) (EvP.yes y (EvP.bind (itAdd_ev g hg out ho _ hx') fun r hr => ih (i + 1) r (by omega) hr.1))))))
  exact EvP.fn (fun k => spec_l5Move_eq k _ _ _ _ _ _) (loop list.length 0 [] (Nat.zero_add _) (Its.nil g))
theorem same_ev (a b : List ItT) (ha : a.length ≤ 1000000) : EvP (fun k => spec_l5Same k a b) (fun r => True) := by
  refine EvP.fn (fun k => spec_l5Same_eq k _ _) (EvP.notT (fun _ => EvP.now trivial) (fun he => ?_))
  have loop : ∀ (n i : Nat), i + n = a.length → EvP (fun k => spec_l5Same_L58 k a b (i : Int)) (fun r => True) := by
    intro n
    induction n with
    | zero => intro i h; exact EvP.fn (fun k => spec_l5Same_L58_eq k _ _ _) (EvP.decN (by omega) (EvP.now trivial))
    | succ n ih =>
      intro i h
      refine EvP.fn (fun k => spec_l5Same_L58_eq k _ _ _) (EvP.decY (by omega) (EvP.yes (by omega) (EvP.yes (by omega) (EvP.yes (by omega) (EvP.yes (by omega) ?_)))))
      rw [w64 (by omega) (by omega)]
      exact EvP.ite (fun _ => EvP.now trivial) (fun _ => ih (i + 1) (by omega))
  exact loop a.length 0 (Nat.zero_add _)
theorem stPlace_ev (l : List (List ItT)) (hl : l.length ≤ 1000) (hs : ∀ a ∈ l, a.length ≤ 1000000) (x : List ItT) : EvP (fun k => spec_l5Place k l x) (fun r => -1 ≤ r ∧ r < l.length) := by
  have loop : ∀ (n i : Nat), i + n = l.length → EvP (fun k => spec_l5Place_L26 k l x (i : Int)) (fun r => -1 ≤ r ∧ r < l.length) := by
    intro n
    induction n with
    | zero => intro i h; exact EvP.fn (fun k => spec_l5Place_L26_eq k _ _ _) (EvP.decN (by omega) (EvP.now ⟨by decide, by show (-1 : Int) < _; omega⟩))
    | succ n ih =>
      intro i h
      refine EvP.fn (fun k => spec_l5Place_L26_eq k _ _ _) (EvP.decY (by omega) (EvP.yes (by omega) (EvP.yes (by omega) ?_)))
      rw [w64 (by omega) (by omega)]
      exact EvP.bind (same_ev _ x (hs _ (getD_mem l _ [] (by omega)))) fun b _ => EvP.ite (fun _ => EvP.now ⟨by omega, by omega⟩) (fun _ => ih (i + 1) (by omega))
  exact EvP.fn (fun k => spec_l5Place_eq k _ _) (loop l.length 0 (Nat.zero_add _))
/-! states and the table of a drawn grammar -/
def StsP (g : GramT) (l : List (List ItT)) : Prop := l.length ≤ 40 ∧ ∀ x ∈ l, Its g x
theorem StsP.at {g : GramT} {l : List (List ItT)} (h : StsP g l) {i : Nat} (hi : i < l.length) : Its g (l.getD i []) := h.2 _ (getD_mem _ _ _ hi)
theorem StsP.lens {g : GramT} (hg : GFine g) {l : List (List ItT)} (h : StsP g l) : ∀ a ∈ l, a.length ≤ 1000000 := fun a ha => by have := (h.2 a ha).le hg; omega
theorem states_ev (g : GramT) (hg : GFine g) : EvP (fun k => spec_l5States k g.1 g.2) (fun r => StsP g r.1) := by
  refine EvP.fn (fun k => spec_l5States_eq k _ _) (EvP.bind (look_ev g hg) fun l hl => EvP.bind (close_ev g hg l hl _ (first_its g)) fun c0 hc0 => EvP.bind (l5Signs_ev g hg) fun sg hsg => ?_)
  have hs := hsg.1
  have inner (i : Nat) (hi : i < 40) (hnext : ∀ out, StsP g out → i < out.length → EvP (fun k => spec_l5States_L250 k g l out sg ((i + 1 : Nat) : Int)) (fun r => StsP g r.1)) : ∀ (n t : Nat) (out : List (List ItT)), t + n = sg.length → StsP g out → i < out.length → EvP (fun k => spec_l5States_L16018 k g l out sg (i : Int) (t : Int)) (fun r => StsP g r.1) := by
    intro n
    induction n with
    | zero =>
      intro t out h ho hio
      refine EvP.fn (fun k => spec_l5States_L16018_eq k _ _ _ _ _ _) (EvP.decN (by omega) ?_)
      rw [w64 (by omega) (by omega)]
      exact hnext out ho hio
    | succ n ih =>
      intro t out h ho hio
      have et : IntKind.i64.wrap ((t : Int) + 1) = ((t + 1 : Nat) : Int) := w64 (by omega) (by omega)
      have hL := ho.1
      refine EvP.fn (fun k => spec_l5States_L16018_eq k _ _ _ _ _ _) (EvP.decY (by omega) (EvP.yes (by omega) (EvP.yes (by omega) (EvP.yes (by omega) ?_))))
      rw [et, Int.toNat_natCast, Int.toNat_natCast, Int.toNat_natCast, one_sg sg t (by omega)]
      refine EvP.yes (by omega) (EvP.yes (by omega) (EvP.bind (move_ev g hg l hl _ (ho.at hio) _) fun x hx => EvP.decF (fun _ => EvP.bind (stPlace_ev out (by omega) (ho.lens hg) x) fun p hp => EvP.dec (fun _ => ih (t + 1) out (by omega) ho hio) (fun _ => EvP.dec (fun _ => EvP.now ⟨by show 0 ≤ 40; omega, fun y hy => by cases hy⟩) (fun h40 => EvP.yes (ltM (by show out.length + 1 ≤ _; omega)) (ih (t + 1) _ (by omega) ⟨by rw [List.length_append]; show out.length + 1 ≤ 40; omega, fun y hy => ?_⟩ (by rw [List.length_append]; omega))))) (fun _ => ih (t + 1) out (by omega) ho hio)))
      rcases List.mem_append.1 hy with hy | hy
      · exact ho.2 y hy
      · rw [List.mem_singleton.1 hy]; exact hx
  have outer : ∀ (n i : Nat) (out : List (List ItT)), i + n = 40 → StsP g out → i ≤ out.length → EvP (fun k => spec_l5States_L250 k g l out sg (i : Int)) (fun r => StsP g r.1) := by
    intro n
    induction n with
    | zero =>
      intro i out h ho hio
      have := ho.1
      exact EvP.fn (fun k => spec_l5States_L250_eq k _ _ _ _ _) (EvP.decN (by omega) (EvP.now ho))
    | succ n ih =>
      intro i out h ho hio
      exact EvP.fn (fun k => spec_l5States_L250_eq k _ _ _ _ _) (EvP.dec (fun hlt => inner i (by omega) (fun o h1 h2 => ih (i + 1) o (by omega) h1 h2) sg.length 0 out (Nat.zero_add _) ho (by omega)) (fun _ => EvP.now ho))
  exact outer 40 0 [c0] (Nat.zero_add _) ⟨by show 1 ≤ 40; omega, fun x hx => by rw [List.mem_singleton.1 hx]; exact hc0.1⟩ (Nat.zero_le _)
abbrev EntT := Int × List UInt8 × Int
abbrev TabT := Int × List EntT × List EntT
/-- A table of no more than so much. -/
def Tb (n : Nat) (t : TabT) : Prop := t.2.1.length ≤ n ∧ t.2.2.length ≤ n
theorem l6Of_ev (g : GramT) (hg : GFine g) (sts : List (List ItT)) (hst : StsP g sts) : EvP (fun k => spec_l6Of k g.1 g.2 sts) (Tb 500000) := by
  have h40 := hst.1
  refine EvP.fn (fun k => spec_l6Of_eq k _ _ _) (EvP.bind (look_ev g hg) fun l hl => EvP.bind (l5Signs_ev g hg) fun sg hsg => ?_)
  have hs := hsg.1
  have ends (z : TabT) (i : Nat) (hi : i < sts.length) (hnext : ∀ t : TabT, t.2.1.length ≤ 512 * (i + 1) → t.2.2.length ≤ 11520 * (i + 1) → EvP (fun k => spec_l6Of_L250 k sts g z t l sg ((i + 1 : Nat) : Int)) (Tb 500000)) : ∀ (n j : Nat) (t : TabT), j + n = (sts.getD i []).length → t.2.1.length ≤ 512 * (i + 1) → t.2.2.length ≤ 11520 * i + j → EvP (fun k => spec_l6Of_L32038 k sts g z t l sg (i : Int) (j : Int)) (Tb 500000) := by
    have hI := hst.at hi
    have hIl := hI.le hg
    intro n
    induction n with
    | zero =>
      intro j t h h1 h2
      refine EvP.fn (fun k => spec_l6Of_L32038_eq k _ _ _ _ _ _ _ _) (EvP.yes (by omega) (EvP.yes (by omega) ?_))
      rw [Int.toNat_natCast, w64 (x := (i : Int) + 1) (by omega) (by omega)]
      exact EvP.decN (by omega) (hnext t h1 (by omega))
    | succ n ih =>
      intro j t h h1 h2
      refine EvP.fn (fun k => spec_l6Of_L32038_eq k _ _ _ _ _ _ _ _) (EvP.yes (by omega) (EvP.yes (by omega) ?_))
      rw [Int.toNat_natCast, Int.toNat_natCast, w64 (x := (j : Int) + 1) (by omega) (by omega)]
      have hx := hI.2 _ (getD_mem (sts.getD i []) j ((0 : Int), (0 : Int), ([] : List UInt8)) (by omega))
      refine EvP.decY (by omega) (EvP.yes (by omega) (EvP.yes (by omega) (EvP.yes (by omega) (EvP.yes (by omega) (EvP.bind (next_ev g hg _ hx) fun s hs' => EvP.dec (fun _ => EvP.yes (ltM (by show t.2.2.length + 1 ≤ _; omega)) (ih (j + 1) _ (by omega) h1 (by show (t.2.2 ++ _).length ≤ _; rw [List.length_append]; show t.2.2.length + 1 ≤ _; omega))) (fun _ => ih (j + 1) t (by omega) h1 (by omega)))))))
  have moves (z : TabT) (i : Nat) (hi : i < sts.length) (hnext : ∀ t : TabT, t.2.1.length ≤ 512 * (i + 1) → t.2.2.length ≤ 11520 * (i + 1) → EvP (fun k => spec_l6Of_L250 k sts g z t l sg ((i + 1 : Nat) : Int)) (Tb 500000)) : ∀ (n j : Nat) (t : TabT), j + n = sg.length → t.2.1.length ≤ 512 * i + j → t.2.2.length ≤ 11520 * i → EvP (fun k => spec_l6Of_L32034 k sts g z t l sg (i : Int) (j : Int)) (Tb 500000) := by
    have hI := hst.at hi
    intro n
    induction n with
    | zero =>
      intro j t h h1 h2
      exact EvP.fn (fun k => spec_l6Of_L32034_eq k _ _ _ _ _ _ _ _) (EvP.decN (by omega) (ends z i hi hnext _ 0 t (Nat.zero_add _) (by omega) (by omega)))
    | succ n ih =>
      intro j t h h1 h2
      have et : IntKind.i64.wrap ((j : Int) + 1) = ((j + 1 : Nat) : Int) := w64 (by omega) (by omega)
      refine EvP.fn (fun k => spec_l6Of_L32034_eq k _ _ _ _ _ _ _ _) (EvP.decY (by omega) (EvP.yes (by omega) (EvP.yes (by omega) (EvP.yes (by omega) ?_))))
      rw [et, Int.toNat_natCast, Int.toNat_natCast, Int.toNat_natCast, one_sg sg j (by omega)]
      refine EvP.yes (by omega) (EvP.yes (by omega) (EvP.bind (move_ev g hg l hl _ hI _) fun x hx => EvP.dec (fun _ => EvP.yes (by omega) (EvP.yes (by omega) (EvP.yes (by omega) (EvP.bind (stPlace_ev sts (by omega) (hst.lens hg) x) fun p hp => EvP.yes (ltM (by show t.2.1.length + 1 ≤ _; omega)) (ih (j + 1) _ (by omega) (by show (t.2.1 ++ _).length ≤ _; rw [List.length_append]; show t.2.1.length + 1 ≤ _; omega) h2))))) (fun _ => ih (j + 1) t (by omega) (by omega) h2)))
  have outer (z : TabT) : ∀ (n i : Nat) (t : TabT), i + n = sts.length → t.2.1.length ≤ 512 * i → t.2.2.length ≤ 11520 * i → EvP (fun k => spec_l6Of_L250 k sts g z t l sg (i : Int)) (Tb 500000) := by
    intro n
    induction n with
    | zero => intro i t h h1 h2; exact EvP.fn (fun k => spec_l6Of_L250_eq k _ _ _ _ _ _ _) (EvP.decN (by omega) (EvP.now ⟨by show t.2.1.length ≤ _; omega, by show t.2.2.length ≤ _; omega⟩))
    | succ n ih =>
      intro i t h h1 h2
      exact EvP.fn (fun k => spec_l6Of_L250_eq k _ _ _ _ _ _ _) (EvP.decY (by omega) (moves z i (by omega) (fun t' h1' h2' => ih (i + 1) t' (by omega) h1' h2') sg.length 0 t (Nat.zero_add _) (by omega) h2))
  exact outer _ sts.length 0 _ (Nat.zero_add _) (by show 0 ≤ _; omega) (by show 0 ≤ _; omega)
theorem tableOf_ev (g : GramT) (hs : ∀ x ∈ g.2, x.2.length ≤ 1000000) : EvP (fun k => spec_TableOf k g.1 g.2) (fun r => Tb 500000 r.1) := by
  have st : EvP (fun k => spec_StatesOf k g.1 g.2) (fun r => r.2 = true → GFine g ∧ StsP g r.1) := by
    refine EvP.fn (fun k => spec_StatesOf_eq k _ _) (EvP.bind (specGramOk_ev g hs) fun b hb => ?_)
    cases b with
    | false => exact EvP.yes rfl (EvP.now fun h => by cases h)
    | true =>
      have hg := GFine.of (hb.1 rfl)
      exact EvP.no (by simp) (EvP.bind (states_ev g hg) fun r hr => EvP.now fun _ => ⟨hg, hr⟩)
  refine EvP.fn (fun k => spec_TableOf_eq k _ _) (EvP.bind st fun r hr => ?_)
  cases h : r.2 with
  | false => exact EvP.yes rfl (EvP.now ⟨Nat.zero_le _, Nat.zero_le _⟩)
  | true => exact EvP.no (by simp) (EvP.bind (l6Of_ev g (hr h).1 r.1 (hr h).2) fun t ht => EvP.now ht)
theorem Tb.more {n m : Nat} {t : TabT} (h : Tb n t) (hm : n ≤ m) : Tb m t := ⟨by have := h.1; omega, by have := h.2; omega⟩
theorem l6Bent_ev {m : Nat} {b : List Int} {p : Int} (hr : Rd (m + 4) b p) (n : Nat) (hn : n ≤ 900000) (t : TabT) (ht : Tb n t) : EvP (fun k => spec_l6Bent k b p t.1 t.2.1 t.2.2) (fun r => Tb (n + 1) r.1 ∧ Rd m r.2.1 r.2.2) := by
  have h1 := ht.1
  have h2 := ht.2
  have same : ∀ v : Int, Tb (n + 1) (v, t.2.1, t.2.2) := fun v => ⟨by show t.2.1.length ≤ _; omega, by show t.2.2.length ≤ _; omega⟩
  refine EvP.fn (fun k => spec_l6Bent_eq k _ _ _ _ _) (EvP.yes (ltM (by omega)) (EvP.yes (ltM (by omega)) (EvP.bind (pick_ev (m := m + 3) (hr.less (by omega)) (by omega) (by omega)) fun a ha => ?_)))
  refine EvP.dec (fun _ => EvP.now ⟨same _, ha.2.2.less (by omega)⟩) (fun _ => EvP.bind (pick_ev (m := m + 2) (ha.2.2.less (by omega)) (by omega) (by omega)) fun c hc => ?_)
  have hR := hc.2.2
  refine EvP.dec (fun _ => EvP.bind (num_ev (m := m + 1) (hR.less (by omega)) _ (by decide) (by decide)) fun d hd => EvP.now ⟨same _, hd.2.less (by omega)⟩) (fun _ => ?_)
  refine EvP.dec (fun _ => EvP.dec (fun h0 => EvP.bind (pick_ev (m := m + 1) (hR.less (by omega)) (by omega) (by omega)) fun d hd => EvP.bind (num_ev (m := m) (hd.2.2.less (by omega)) _ (by decide) (by decide)) fun e he => EvP.yes hd.1 (EvP.yes hd.2.1 (EvP.now ⟨⟨by show (t.2.1.set _ _).length ≤ _; rw [List.length_set]; omega, by show t.2.2.length ≤ _; omega⟩, he.2⟩))) (fun _ => EvP.now ⟨same _, hR.less (by omega)⟩)) (fun _ => ?_)
  refine EvP.dec (fun _ => EvP.dec (fun h0 => EvP.yes (by omega) (EvP.yes (by omega) (EvP.yes (by omega) (EvP.now ⟨⟨?_, by show t.2.2.length ≤ _; omega⟩, hR.less (by omega)⟩)))) (fun _ => EvP.now ⟨same _, hR.less (by omega)⟩)) (fun _ => ?_)
  · show (List.drop _ (List.take _ t.2.1)).length ≤ _
    rw [List.length_drop, List.length_take]; omega
  refine EvP.dec (fun _ => EvP.dec (fun h0 => EvP.bind (pick_ev (m := m + 1) (hR.less (by omega)) (by omega) (by omega)) fun d hd => EvP.bind (num_ev (m := m) (hd.2.2.less (by omega)) _ (by decide) (by decide)) fun e he => EvP.yes hd.1 (EvP.yes hd.2.1 (EvP.now ⟨⟨by show t.2.1.length ≤ _; omega, by show (t.2.2.set _ _).length ≤ _; rw [List.length_set]; omega⟩, he.2⟩))) (fun _ => EvP.now ⟨same _, hR.less (by omega)⟩)) (fun _ => ?_)
  refine EvP.dec (fun _ => EvP.bind (num_ev (m := m + 1) (hR.less (by omega)) _ (by decide) (by decide)) fun d hd => EvP.bind (of_ev (m := m) (hd.2.less (by omega)) _ (by simp) (by simp)) fun e he => EvP.yes (ltM (by show t.2.2.length + 1 ≤ _; omega)) (EvP.now ⟨⟨by show t.2.1.length ≤ _; omega, ?_⟩, he.2⟩)) (fun _ => ?_)
  · show (t.2.2 ++ _).length ≤ _
    rw [List.length_append]; show t.2.2.length + 1 ≤ _; omega
  · refine EvP.bind (of_ev (m := m + 1) (hR.less (by omega)) _ (by simp) (by simp)) fun e he => EvP.yes (ltM (by show t.2.1.length + 1 ≤ _; omega)) (EvP.now ⟨⟨?_, by show t.2.2.length ≤ _; omega⟩, he.2.less (by omega)⟩)
    show (t.2.1 ++ _).length ≤ _
    rw [List.length_append]; show t.2.1.length + 1 ≤ _; omega
theorem l6Some_ev {m : Nat} {b : List Int} {p : Int} (hr : Rd (m + 34) b p) : EvP (fun k => spec_l6Some k b p) (fun r => Gr 6 r.1 ∧ Tb 500001 r.2.1 ∧ Rd m r.2.2.1 r.2.2.2) := by
  refine EvP.fn (fun k => spec_l6Some_eq k _ _) (EvP.bind (gram_ev (m := m + 4) hr) fun a ha => EvP.bind (tableOf_ev a.1 fun x hx => by have := (ha.1.2.2 x hx).2; omega) fun t ht => EvP.bind (l6Bent_ev ha.2 500000 (by omega) t.1 ht) fun r hr' => EvP.now ⟨ha.1, hr'.1, hr'.2⟩)
/-! what is first found in a table -/
def goOf : List EntT → Int → List UInt8 → Int × Bool
  | [], _, _ => (0, false)
  | e :: t, s, c => if e.1 = s ∧ e.2.1 = c then (e.2.2, true) else goOf t s c
theorem goOf_hit {e : EntT} {t : List EntT} {s : Int} {c : List UInt8} (h1 : e.1 = s) (h2 : e.2.1 = c) : goOf (e :: t) s c = (e.2.2, true) := if_pos ⟨h1, h2⟩
theorem goOf_miss {e : EntT} {t : List EntT} {s : Int} {c : List UInt8} (h : ¬(e.1 = s ∧ e.2.1 = c)) : goOf (e :: t) s c = goOf t s c := if_neg h
def IdxP (l : List EntT) (s : Int) (c : List UInt8) (q : Int × Bool) (r : Int) : Prop := (r < 0 ∧ q = (0, false)) ∨ (0 ≤ r ∧ r < l.length ∧ q = ((l.getD r.toNat ((0 : Int), ([] : List UInt8), (0 : Int))).2.2, true))
theorem specGo_ev (t : TabT) (ht : t.2.1.length ≤ 1000000) (s : Int) (c : List UInt8) : EvP (fun k => spec_TableGo k t.1 t.2.1 t.2.2 s c) (fun r => r = goOf t.2.1 s c) := by
  have loop : ∀ (n i : Nat), i + n = t.2.1.length → EvP (fun k => spec_TableGo_L26 k s c t (i : Int)) (fun r => r = goOf (t.2.1.drop i) s c) := by
    intro n
    induction n with
    | zero =>
      intro i h
      refine EvP.fn (fun k => spec_TableGo_L26_eq k _ _ _ _) (EvP.decN (by omega) (EvP.now ?_))
      rw [List.drop_eq_nil_of_le (by omega)]; rfl
    | succ n ih =>
      intro i h
      have y : (i : Int) < (t.2.1.length : Int) := by omega
      refine EvP.fn (fun k => spec_TableGo_L26_eq k _ _ _ _) (EvP.decY y (EvP.yes (by omega) (EvP.yes y ?_)))
      rw [Int.toNat_natCast, w64 (by omega) (by omega), drop_cons t.2.1 i ((0 : Int), ([] : List UInt8), (0 : Int)) (by omega)]
      refine EvP.dec (fun h1 => EvP.yes (by omega) (EvP.yes y (EvP.dec (fun h2 => EvP.yes (by omega) (EvP.yes y (EvP.now (goOf_hit h1 h2).symm))) (fun h2 => ?_)))) (fun h1 => ?_)
      · rw [goOf_miss fun hh => h2 hh.2]; exact ih (i + 1) (by omega)
      · rw [goOf_miss fun hh => h1 hh.1]; exact ih (i + 1) (by omega)
  exact EvP.fn (fun k => spec_TableGo_eq k _ _ _ _ _) (loop t.2.1.length 0 (Nat.zero_add _))
theorem specEnd_ev (t : TabT) (ht : t.2.2.length ≤ 1000000) (s : Int) (c : List UInt8) : EvP (fun k => spec_TableEnd k t.1 t.2.1 t.2.2 s c) (fun r => r = goOf t.2.2 s c) := by
  have loop : ∀ (n i : Nat), i + n = t.2.2.length → EvP (fun k => spec_TableEnd_L26 k s c t (i : Int)) (fun r => r = goOf (t.2.2.drop i) s c) := by
    intro n
    induction n with
    | zero =>
      intro i h
      refine EvP.fn (fun k => spec_TableEnd_L26_eq k _ _ _ _) (EvP.decN (by omega) (EvP.now ?_))
      rw [List.drop_eq_nil_of_le (by omega)]; rfl
    | succ n ih =>
      intro i h
      have y : (i : Int) < (t.2.2.length : Int) := by omega
      refine EvP.fn (fun k => spec_TableEnd_L26_eq k _ _ _ _) (EvP.decY y (EvP.yes (by omega) (EvP.yes y ?_)))
      rw [Int.toNat_natCast, w64 (by omega) (by omega), drop_cons t.2.2 i ((0 : Int), ([] : List UInt8), (0 : Int)) (by omega)]
      refine EvP.dec (fun h1 => EvP.yes (by omega) (EvP.yes y (EvP.dec (fun h2 => EvP.yes (by omega) (EvP.yes y (EvP.now (goOf_hit h1 h2).symm))) (fun h2 => ?_)))) (fun h1 => ?_)
      · rw [goOf_miss fun hh => h2 hh.2]; exact ih (i + 1) (by omega)
      · rw [goOf_miss fun hh => h1 hh.1]; exact ih (i + 1) (by omega)
  exact EvP.fn (fun k => spec_TableEnd_eq k _ _ _ _ _) (loop t.2.2.length 0 (Nat.zero_add _))
/-! what clashes in a table -/
abbrev KT : Ty := .pair (.int .i64) .str
abbrev CK := Int × List UInt8
theorem eqD_ck (x y : CK) : eqD KT x y = decide (x = y) := by
  obtain ⟨a, b⟩ := x
  obtain ⟨d, e⟩ := y
  show (decide (a = d) && decide (b = e)) = _
  rw [Bool.eq_iff_iff]
  simp only [Bool.and_eq_true, decide_eq_true_eq, Prod.mk.injEq]
def kb (xs : List (CK × Bool)) (x : CK) : Bool := mval KT .bool xs x
theorem kb_put : ∀ (xs : List (CK × Bool)) (x : CK) (z : CK), kb (mput KT .bool xs x true) z = (kb xs z || decide (z = x))
  | [], x, z => by
    show (match eqD KT z x with | true => true | false => false) = _
    rw [eqD_ck]
    by_cases h : z = x <;> simp [h, kb, mval, Ty.dflt]
  | p :: r, x, z => by
    have ih := kb_put r x z
    unfold kb at ih ⊢
    unfold mput
    rw [eqD_ck]
    by_cases h : x = p.1
    · rw [decide_eq_true h]
      show mval KT .bool ((p.1, true) :: r) z = _
      unfold mval
      rw [eqD_ck, ← h]
      by_cases h2 : z = x
      · simp [h2]
      · simp [h2]
    · rw [decide_eq_false h]
      show mval KT .bool (p :: mput KT .bool r x true) z = _
      unfold mval
      rw [eqD_ck]
      by_cases h2 : z = p.1
      · have h3 : ¬ z = x := fun e => h (e ▸ h2)
        rw [decide_eq_true h2, decide_eq_false h3, Bool.or_false]
      · rw [decide_eq_false h2]; exact ih
def ky (e : EntT) : CK := (e.1, e.2.1)
theorem ky_eq {e : EntT} {z : CK} : ky e = z ↔ (e.1 = z.1 ∧ e.2.1 = z.2) := by
  obtain ⟨a, b⟩ := z
  exact Prod.mk.injEq .. ▸ Iff.rfl
/-- Whether a list speaks of a key. -/
def gs (l : List EntT) (z : CK) : Bool := (goOf l z.1 z.2).2
theorem gs_nil (z : CK) : gs [] z = false := rfl
theorem gs_cons (e : EntT) (t : List EntT) (z : CK) : gs (e :: t) z = (decide (ky e = z) || gs t z) := by
  unfold gs
  by_cases h : ky e = z
  · rw [goOf_hit (ky_eq.1 h).1 (ky_eq.1 h).2, decide_eq_true h]; rfl
  · rw [goOf_miss (fun h' => h (ky_eq.2 h')), decide_eq_false h, Bool.false_or]
theorem gs_snoc : ∀ (l : List EntT) (e : EntT) (z : CK), gs (l ++ [e]) z = (gs l z || decide (ky e = z))
  | [], e, z => by rw [List.nil_append, gs_cons, gs_nil, Bool.or_false, Bool.false_or]
  | a :: t, e, z => by rw [List.cons_append, gs_cons, gs_cons, gs_snoc t e z, Bool.or_assoc]
theorem take_snoc {α : Type} (l : List α) (i : Nat) (d : α) (h : i < l.length) : l.take (i + 1) = l.take i ++ [l.getD i d] := by
  rw [List.take_add_one, List.getD_eq_getElem?_getD, List.getElem?_eq_getElem h]; rfl
def cnt (l : List EntT) (z : CK) : Nat := l.countP fun e => decide (ky e = z)
theorem cnt_snoc (l : List EntT) (e : EntT) (z : CK) : cnt (l ++ [e]) z = cnt l z + if ky e = z then 1 else 0 := by
  unfold cnt
  rw [List.countP_append, List.countP_singleton]
  by_cases h : ky e = z <;> simp [h]
theorem cnt_gs : ∀ (l : List EntT) (z : CK), gs l z = true → 1 ≤ cnt l z
  | [], z, h => by cases h
  | e :: t, z, h => by
    unfold cnt
    rw [List.countP_cons]
    by_cases hk : ky e = z
    · rw [if_pos (decide_eq_true hk)]; omega
    · rw [gs_cons, decide_eq_false hk, Bool.false_or] at h
      have := cnt_gs t z h
      unfold cnt at this; omega
def clF (m E : List EntT) : Nat → List CK
  | 0 => []
  | i + 1 => if ((gs (E.take i) (ky (E.getD i ((0 : Int), ([] : List UInt8), (0 : Int)))) || gs m (ky (E.getD i ((0 : Int), ([] : List UInt8), (0 : Int))))) && !(clF m E i).contains (ky (E.getD i ((0 : Int), ([] : List UInt8), (0 : Int))))) = true then clF m E i ++ [ky (E.getD i ((0 : Int), ([] : List UInt8), (0 : Int)))] else clF m E i
theorem clF_yes {m E : List EntT} {i : Nat} {z : CK} (hz : ky (E.getD i ((0 : Int), ([] : List UInt8), (0 : Int))) = z) (h : gs (E.take i) z = true ∨ gs m z = true) (h2 : (clF m E i).contains z = false) : clF m E (i + 1) = clF m E i ++ [z] := by
  have : ((gs (E.take i) z || gs m z) && !(clF m E i).contains z) = true := by
    rw [h2]
    rcases h with h | h <;> simp [h]
  rw [clF, hz, if_pos this]
theorem clF_no {m E : List EntT} {i : Nat} {z : CK} (hz : ky (E.getD i ((0 : Int), ([] : List UInt8), (0 : Int))) = z) (h : (gs (E.take i) z = false ∧ gs m z = false) ∨ (clF m E i).contains z = true) : clF m E (i + 1) = clF m E i := by
  have : ¬ ((gs (E.take i) z || gs m z) && !(clF m E i).contains z) = true := by
    rcases h with ⟨h, h'⟩ | h
    · simp [h, h']
    · rw [h, Bool.not_true, Bool.and_false]; exact Bool.false_ne_true
  rw [clF, hz, if_neg this]
theorem clF_step (m E : List EntT) (i : Nat) : clF m E (i + 1) = clF m E i ∨ clF m E (i + 1) = clF m E i ++ [ky (E.getD i ((0 : Int), ([] : List UInt8), (0 : Int)))] := by
  rw [clF]; split
  · exact .inr rfl
  · exact .inl rfl
theorem clF_le (m E : List EntT) : ∀ i, (clF m E i).length ≤ i
  | 0 => Nat.le_refl _
  | i + 1 => by
    have := clF_le m E i
    rcases clF_step m E i with h | h <;> rw [h]
    · omega
    · rw [List.length_append]; show _ + 1 ≤ _; omega
theorem clF_mono (m E : List EntT) (i : Nat) : (clF m E i).length ≤ (clF m E (i + 1)).length := by
  rcases clF_step m E i with h | h <;> rw [h]
  · exact Nat.le_refl _
  · rw [List.length_append]; omega
theorem clF_take (m E : List EntT) (n : Nat) (hn : n ≤ E.length) : ∀ i, i ≤ n → clF m (E.take n) i = clF m E i
  | 0, _ => rfl
  | i + 1, h => by
    have ih := clF_take m E n hn i (by omega)
    have e1 : (E.take n).take i = E.take i := by rw [List.take_take]; congr 1; omega
    have e2 : (E.take n).getD i ((0 : Int), ([] : List UInt8), (0 : Int)) = E.getD i ((0 : Int), ([] : List UInt8), (0 : Int)) := by
      rw [List.getD_eq_getElem?_getD, List.getD_eq_getElem?_getD, List.getElem?_take_of_lt (by omega)]
    rw [clF, clF, ih, e1, e2]
theorem clF_why (m E : List EntT) : ∀ i, i ≤ E.length → ∀ z ∈ clF m E i, 1 ≤ cnt (E.take i) z ∧ (gs m z = true ∨ 2 ≤ cnt (E.take i) z)
  | 0, _, z, h => by cases h
  | i + 1, hi, z, h => by
    rw [take_snoc E i ((0 : Int), ([] : List UInt8), (0 : Int)) (by omega), cnt_snoc]
    have old : z ∈ clF m E i → 1 ≤ cnt (E.take i) z + (if ky (E.getD i ((0 : Int), ([] : List UInt8), (0 : Int))) = z then 1 else 0) ∧ (gs m z = true ∨ 2 ≤ cnt (E.take i) z + (if ky (E.getD i ((0 : Int), ([] : List UInt8), (0 : Int))) = z then 1 else 0)) := fun h' => by
      have := clF_why m E i (by omega) z h'
      exact ⟨by omega, this.2.imp id (by omega)⟩
    by_cases hc : ((gs (E.take i) (ky (E.getD i ((0 : Int), ([] : List UInt8), (0 : Int)))) || gs m (ky (E.getD i ((0 : Int), ([] : List UInt8), (0 : Int))))) && !(clF m E i).contains (ky (E.getD i ((0 : Int), ([] : List UInt8), (0 : Int))))) = true
    · rw [clF, if_pos hc] at h
      rcases List.mem_append.1 h with h | h
      · exact old h
      · have hz : ky (E.getD i ((0 : Int), ([] : List UInt8), (0 : Int))) = z := (List.mem_singleton.1 h).symm
        rw [hz] at hc
        rw [if_pos hz]
        refine ⟨by omega, ?_⟩
        rw [Bool.and_eq_true, Bool.or_eq_true] at hc
        rcases hc.1 with h1 | h1
        · have := cnt_gs _ _ h1
          exact .inr (by omega)
        · exact .inl h1
    · rw [clF, if_neg hc] at h
      exact old h
theorem implClash_ev (t : TabT) (h1 : t.2.1.length ≤ 900000) (h2 : t.2.2.length ≤ 900000) : EvP (fun k => impl_TableClash k t.1 t.2.1 t.2.2) (fun r => r = clF t.2.1 t.2.2 t.2.2.length) := by
  generalize hm : t.2.1 = m at h1 ⊢
  generalize hE : t.2.2 = E at h2 ⊢
  have ends (mp : List (CK × Bool)) (hmp : ∀ z, kb mp z = gs m z) : ∀ (n i : Nat) (en cl : List (CK × Bool)), i + n = E.length → (∀ z, kb en z = gs (E.take i) z) → (∀ z, kb cl z = (clF m E i).contains z) → EvP (fun k => impl_TableClash_L506 k en cl mp (clF m E i) E (E.length : Int) (i : Int)) (fun r => r = clF m E E.length) := by
    intro n
    induction n with
    | zero =>
      intro i en cl h hen hcl
      refine EvP.fn (fun k => impl_TableClash_L506_eq k _ _ _ _ _ _ _) (EvP.decN (by omega) (EvP.now ?_))
      rw [show i = E.length by omega]
    | succ n ih =>
      intro i en cl h hen hcl
      have hle := clF_le m E i
      refine EvP.fn (fun k => impl_TableClash_L506_eq k _ _ _ _ _ _ _) (EvP.decY (by omega) (EvP.yes (by omega) (EvP.yes (by omega) ?_)))
      rw [Int.toNat_natCast, w64 (by omega) (by omega)]
      have hz : ky (E.getD i ((0 : Int), ([] : List UInt8), (0 : Int))) = ((E.getD i ((0 : Int), ([] : List UInt8), (0 : Int))).1, (E.getD i ((0 : Int), ([] : List UInt8), (0 : Int))).2.1) := rfl
      generalize ((E.getD i ((0 : Int), ([] : List UInt8), (0 : Int))).1, (E.getD i ((0 : Int), ([] : List UInt8), (0 : Int))).2.1) = z at hz ⊢
      have e1 : mval (Ty.pair (Ty.int IntKind.i64) Ty.str) Ty.bool en z = gs (E.take i) z := hen z
      have e2 : mval (Ty.pair (Ty.int IntKind.i64) Ty.str) Ty.bool cl z = (clF m E i).contains z := hcl z
      have e3 : mval (Ty.pair (Ty.int IntKind.i64) Ty.str) Ty.bool mp z = gs m z := hmp z
      rw [e1, e2, e3]
      have hen' : ∀ y, kb (mput KT .bool en z true) y = gs (E.take (i + 1)) y := fun y => by
        rw [kb_put, hen, take_snoc E i ((0 : Int), ([] : List UInt8), (0 : Int)) (by omega), gs_snoc, hz]
        congr 1
        exact decide_eq_decide.2 ⟨Eq.symm, Eq.symm⟩
      have add : (gs (E.take i) z = true ∨ gs m z = true) → (clF m E i).contains z = false → EvP (fun k => impl_TableClash_L506 k (mput KT .bool en z true) (mput KT .bool cl z true) mp (clF m E i ++ [z]) E (E.length : Int) ((i : Int) + 1)) (fun r => r = clF m E E.length) := fun ha hb => by
        have e := clF_yes hz ha hb
        have := ih (i + 1) _ (mput KT .bool cl z true) (by omega) hen' (fun y => by rw [kb_put, hcl, e, Bool.eq_iff_iff]; simp)
        rw [e] at this
        exact this
      have keep : ((gs (E.take i) z = false ∧ gs m z = false) ∨ (clF m E i).contains z = true) → EvP (fun k => impl_TableClash_L506 k (mput KT .bool en z true) cl mp (clF m E i) E (E.length : Int) ((i : Int) + 1)) (fun r => r = clF m E E.length) := fun ha => by
        have e := clF_no hz ha
        have := ih (i + 1) _ cl (by omega) hen' (fun y => by rw [hcl, e])
        rw [e] at this
        exact this
      refine EvP.ite (fun a1 => EvP.ite (fun a2 => EvP.ite (fun a3 => EvP.yes (ltM (by show _ + 1 ≤ _; omega)) (add (.inr a2) (by simpa using a3))) (fun a3 => keep (.inr (by simpa using a3)))) (fun a2 => keep (.inl ⟨a1, by simpa using a2⟩))) (fun a1 => EvP.ite (fun a3 => EvP.yes (ltM (by show _ + 1 ≤ _; omega)) (add (.inl (by simpa using a1)) (by simpa using a3))) (fun a3 => keep (.inr (by simpa using a3))))
  have moves : ∀ (n i : Nat) (mp : List (CK × Bool)), i + n = m.length → (∀ z, kb mp z = gs (m.take i) z) → EvP (fun k => impl_TableClash_L122 k t [] [] mp m (m.length : Int) (i : Int)) (fun r => r = clF m E E.length) := by
    intro n
    induction n with
    | zero =>
      intro i mp h hmp
      refine EvP.fn (fun k => impl_TableClash_L122_eq k _ _ _ _ _ _ _) (EvP.decN (by omega) ?_)
      rw [hE]
      rw [List.take_of_length_le (by omega)] at hmp
      exact ends mp hmp E.length 0 [] [] (Nat.zero_add _) (fun z => rfl) (fun z => rfl)
    | succ n ih =>
      intro i mp h hmp
      refine EvP.fn (fun k => impl_TableClash_L122_eq k _ _ _ _ _ _ _) (EvP.decY (by omega) (EvP.yes (by omega) (EvP.yes (by omega) ?_)))
      rw [Int.toNat_natCast, w64 (by omega) (by omega)]
      refine ih (i + 1) _ (by omega) fun y => ?_
      rw [kb_put, hmp, take_snoc m i ((0 : Int), ([] : List UInt8), (0 : Int)) (by omega), gs_snoc]
      congr 1
      exact decide_eq_decide.2 ⟨Eq.symm, Eq.symm⟩
  have e : t = (t.1, m, E) := by rw [← hm, ← hE]
  refine EvP.fn (fun k => impl_TableClash_eq k _ _ _) ?_
  rw [← e]
  exact moves m.length 0 [] (Nat.zero_add _) (fun z => rfl)
/-! a table that is settled -/
def mI (xs : List (CK × Int)) (x : CK) : Int := mval KT (.int .i64) xs x
def hI (xs : List (CK × Int)) (x : CK) : Bool := mhas KT (.int .i64) xs x
theorem hI_put : ∀ (xs : List (CK × Int)) (x : CK) (v : Int) (z : CK), hI (mput KT (.int .i64) xs x v) z = (hI xs z || decide (z = x)) ∧ mI (mput KT (.int .i64) xs x v) z = if z = x then v else mI xs z
  | [], x, v, z => by
    show (match eqD KT z x with | true => true | false => false) = _ ∧ (match eqD KT z x with | true => v | false => (0 : Int)) = _
    rw [eqD_ck]
    by_cases h : z = x <;> simp [h, hI, mI, mhas, mval, Ty.dflt]
  | p :: r, x, v, z => by
    have ih := hI_put r x v z
    unfold hI mI at ih ⊢
    unfold mput
    rw [eqD_ck]
    by_cases h : x = p.1
    · rw [decide_eq_true h]
      show mhas KT (.int .i64) ((p.1, v) :: r) z = _ ∧ mval KT (.int .i64) ((p.1, v) :: r) z = _
      unfold mhas mval
      rw [eqD_ck, ← h]
      by_cases h2 : z = x
      · simp [h2]
      · simp [h2]
    · rw [decide_eq_false h]
      show mhas KT (.int .i64) (p :: mput KT (.int .i64) r x v) z = _ ∧ mval KT (.int .i64) (p :: mput KT (.int .i64) r x v) z = _
      unfold mhas mval
      rw [eqD_ck]
      by_cases h2 : z = p.1
      · have h3 : ¬ z = x := fun e => h (e ▸ h2)
        rw [decide_eq_true h2, if_neg h3, decide_eq_false h3]
        exact ⟨rfl, rfl⟩
      · rw [decide_eq_false h2]; exact ih
theorem gs_of_mem {l : List EntT} {e : EntT} (h : e ∈ l) : gs l (ky e) = true := by
  induction l with
  | nil => cases h
  | cons a t ih =>
    rw [gs_cons]
    rcases List.mem_cons.1 h with h | h
    · rw [h]; simp
    · rw [ih h, Bool.or_true]
theorem mem_of_gs {l : List EntT} {z : CK} (h : gs l z = true) : ∃ e ∈ l, ky e = z := by
  induction l with
  | nil => cases h
  | cons a t ih =>
    rw [gs_cons, Bool.or_eq_true, decide_eq_true_eq] at h
    rcases h with h | h
    · exact ⟨a, List.mem_cons_self .., h⟩
    · obtain ⟨e, he, hk⟩ := ih h
      exact ⟨e, List.mem_cons_of_mem _ he, hk⟩
theorem gs_take {E : List EntT} {k : Nat} : ∀ {i : Nat}, k < i → i ≤ E.length → gs (E.take i) (ky (E.getD k ((0 : Int), ([] : List UInt8), (0 : Int)))) = true
  | 0, h, _ => absurd h (by omega)
  | i + 1, h, hi => by
    rw [take_snoc E i ((0 : Int), ([] : List UInt8), (0 : Int)) (by omega), gs_snoc]
    by_cases e : k = i
    · rw [e]; simp
    · rw [gs_take (i := i) (by omega) (by omega), Bool.true_or]
theorem gs_take' {E : List EntT} {z : CK} : ∀ {i : Nat}, i ≤ E.length → gs (E.take i) z = true → ∃ k, k < i ∧ ky (E.getD k ((0 : Int), ([] : List UInt8), (0 : Int))) = z
  | 0, _, h => by cases h
  | i + 1, hi, h => by
    rw [take_snoc E i ((0 : Int), ([] : List UInt8), (0 : Int)) (by omega), gs_snoc, Bool.or_eq_true, decide_eq_true_eq] at h
    rcases h with h | h
    · obtain ⟨k, hk, e⟩ := gs_take' (i := i) (by omega) h
      exact ⟨k, by omega, e⟩
    · exact ⟨i, by omega, h⟩
def btr (E : List EntT) (k i : Nat) : Prop := (E.getD k ((0 : Int), ([] : List UInt8), (0 : Int))).2.2 < (E.getD i ((0 : Int), ([] : List UInt8), (0 : Int))).2.2 ∨ ((E.getD k ((0 : Int), ([] : List UInt8), (0 : Int))).2.2 = (E.getD i ((0 : Int), ([] : List UInt8), (0 : Int))).2.2 ∧ k < i)
def Bst (E : List EntT) (n i : Nat) : Prop := ∀ k, k < n → ky (E.getD k ((0 : Int), ([] : List UInt8), (0 : Int))) = ky (E.getD i ((0 : Int), ([] : List UInt8), (0 : Int))) → ¬ btr E k i
theorem Bst.one {E : List EntT} {n i j : Nat} (hi : i < n) (hj : j < n) (h1 : Bst E n i) (h2 : Bst E n j) (hk : ky (E.getD i ((0 : Int), ([] : List UInt8), (0 : Int))) = ky (E.getD j ((0 : Int), ([] : List UInt8), (0 : Int)))) : i = j := by
  have a := h1 j hj hk.symm
  have b := h2 i hi hk
  unfold btr at a b
  omega
noncomputable def bstB (E : List EntT) (n i : Nat) : Bool := @decide (Bst E n i) (Classical.propDecidable _)
theorem bstB_iff {E : List EntT} {n i : Nat} : bstB E n i = true ↔ Bst E n i := @decide_eq_true_iff _ (Classical.propDecidable _)
noncomputable def keepE (m E : List EntT) (read : Bool) (i : Nat) : Bool := bstB E E.length i && !(read && gs m (ky (E.getD i ((0 : Int), ([] : List UInt8), (0 : Int)))))
noncomputable def seF (m E : List EntT) (read : Bool) : Nat → List EntT
  | 0 => []
  | i + 1 => if keepE m E read i = true then seF m E read i ++ [E.getD i ((0 : Int), ([] : List UInt8), (0 : Int))] else seF m E read i
def mvP (E : List EntT) (read : Bool) (e : EntT) : Bool := read || !gs E (ky e)
noncomputable def stl (read : Bool) (t : TabT) : TabT := (t.1, t.2.1.filter (mvP t.2.2 read), seF t.2.1 t.2.2 read t.2.2.length)
theorem keep_iff {m E : List EntT} {read : Bool} {i : Nat} : keepE m E read i = true ↔ Bst E E.length i ∧ (read && gs m (ky (E.getD i ((0 : Int), ([] : List UInt8), (0 : Int))))) = false := by
  unfold keepE
  rw [Bool.and_eq_true, bstB_iff, Bool.not_eq_true']
theorem seF_le (m E : List EntT) (read : Bool) : ∀ i, (seF m E read i).length ≤ i
  | 0 => Nat.le_refl _
  | i + 1 => by
    have := seF_le m E read i
    rw [seF]; split
    · rw [List.length_append]; show _ + 1 ≤ _; omega
    · omega
theorem seF_tf (m E : List EntT) : ∀ i, (seF m E true i).length ≤ (seF m E false i).length
  | 0 => Nat.le_refl _
  | i + 1 => by
    have := seF_tf m E i
    have key : keepE m E true i = true → keepE m E false i = true := fun h => keep_iff.2 ⟨(keep_iff.1 h).1, rfl⟩
    rw [seF, seF]
    by_cases h : keepE m E true i = true
    · rw [if_pos h, if_pos (key h), List.length_append, List.length_append]
      show _ + 1 ≤ _ + 1; omega
    · rw [if_neg h]
      split
      · rw [List.length_append]; omega
      · exact this
theorem seF_mem {m E : List EntT} {read : Bool} : ∀ {i : Nat} {e : EntT}, e ∈ seF m E read i → ∃ k, k < i ∧ E.getD k ((0 : Int), ([] : List UInt8), (0 : Int)) = e ∧ keepE m E read k = true
  | 0, e, h => by cases h
  | i + 1, e, h => by
    rw [seF] at h
    by_cases hk : keepE m E read i = true
    · rw [if_pos hk] at h
      rcases List.mem_append.1 h with h | h
      · obtain ⟨k, h1, h2⟩ := seF_mem h
        exact ⟨k, by omega, h2⟩
      · exact ⟨i, by omega, (List.mem_singleton.1 h).symm, hk⟩
    · rw [if_neg hk] at h
      obtain ⟨k, h1, h2⟩ := seF_mem h
      exact ⟨k, by omega, h2⟩
theorem seF_pair {m E : List EntT} {read : Bool} : ∀ {i : Nat}, i ≤ E.length → (seF m E read i).Pairwise fun a b => ky a ≠ ky b
  | 0, _ => List.Pairwise.nil
  | i + 1, hi => by
    have ih := seF_pair (m := m) (E := E) (read := read) (i := i) (by omega)
    rw [seF]; split
    · rename_i hk
      rw [List.pairwise_append]
      refine ⟨ih, List.pairwise_singleton _ _, fun a ha b hb e => ?_⟩
      rw [List.mem_singleton.1 hb] at e
      obtain ⟨k, h1, h2, h3⟩ := seF_mem ha
      rw [← h2] at e
      have := Bst.one (by omega) (by omega) (keep_iff.1 h3).1 (keep_iff.1 hk).1 e
      omega
    · exact ih
theorem clF_nil {m E : List EntT} {n : Nat} (h : ∀ i, i < n → gs (E.take i) (ky (E.getD i ((0 : Int), ([] : List UInt8), (0 : Int)))) = false ∧ gs m (ky (E.getD i ((0 : Int), ([] : List UInt8), (0 : Int)))) = false) : ∀ i, i ≤ n → clF m E i = []
  | 0, _ => rfl
  | i + 1, hi => by rw [clF_no rfl (.inl (h i (by omega))), clF_nil h i (by omega)]
theorem clF_of_nil {m E : List EntT} {n : Nat} (h : clF m E n = []) : ∀ i, i < n → gs (E.take i) (ky (E.getD i ((0 : Int), ([] : List UInt8), (0 : Int)))) = false ∧ gs m (ky (E.getD i ((0 : Int), ([] : List UInt8), (0 : Int)))) = false := by
  have mono : ∀ d i, i + d = n → clF m E i = [] := by
    intro d
    induction d with
    | zero => intro i e; rw [show i = n by omega]; exact h
    | succ d ih =>
      intro i e
      have h1 := ih (i + 1) (by omega)
      have h2 := clF_mono m E i
      rw [h1] at h2
      exact List.eq_nil_of_length_eq_zero (Nat.le_zero.1 h2)
  intro i hi
  have h0 := mono (n - i) i (by omega)
  have h1 := mono (n - (i + 1)) (i + 1) (by omega)
  have hc : (clF m E i).contains (ky (E.getD i ((0 : Int), ([] : List UInt8), (0 : Int)))) = false := by rw [h0]; rfl
  by_cases hh : gs (E.take i) (ky (E.getD i ((0 : Int), ([] : List UInt8), (0 : Int)))) = true ∨ gs m (ky (E.getD i ((0 : Int), ([] : List UInt8), (0 : Int)))) = true
  · rw [clF_yes rfl hh hc] at h1
    exact absurd h1 (by simp)
  · rw [not_or] at hh
    exact ⟨Bool.eq_false_iff.2 hh.1, Bool.eq_false_iff.2 hh.2⟩
theorem stl_calm (read : Bool) (t : TabT) : clF (stl read t).2.1 (stl read t).2.2 (stl read t).2.2.length = [] := by
  have hp : (stl read t).2.2.Pairwise fun a b => ky a ≠ ky b := seF_pair (m := t.2.1) (E := t.2.2) (read := read) (Nat.le_refl _)
  refine clF_nil (n := (stl read t).2.2.length) (fun i hi => ⟨?_, ?_⟩) _ (Nat.le_refl _)
  · refine Bool.eq_false_iff.2 fun hg => ?_
    have hp' := hp.sublist (List.take_sublist (i + 1) _)
    rw [take_snoc _ i ((0 : Int), ([] : List UInt8), (0 : Int)) hi, List.pairwise_append] at hp'
    obtain ⟨e, he, hk⟩ := mem_of_gs hg
    exact hp'.2.2 e he _ (List.mem_singleton.2 rfl) hk
  · refine Bool.eq_false_iff.2 fun hg => ?_
    obtain ⟨e, he, hk⟩ := mem_of_gs hg
    obtain ⟨k, h1, h2, h3⟩ := seF_mem (getD_mem (seF t.2.1 t.2.2 read t.2.2.length) i ((0 : Int), ([] : List UInt8), (0 : Int)) hi)
    have he' := List.mem_filter.1 he
    have hk' : ky e = ky (t.2.2.getD k ((0 : Int), ([] : List UInt8), (0 : Int))) := by rw [hk, h2]; rfl
    cases read with
    | true =>
      have := (keep_iff.1 h3).2
      rw [Bool.true_and, ← hk', gs_of_mem he'.1] at this
      cases this
    | false =>
      have := he'.2
      unfold mvP at this
      rw [Bool.false_or, hk', gs_of_mem (getD_mem t.2.2 k ((0 : Int), ([] : List UInt8), (0 : Int)) h1)] at this
      cases this
theorem stl_same (read : Bool) (t : TabT) (h : clF t.2.1 t.2.2 t.2.2.length = []) : stl read t = t := by
  have hc := clF_of_nil h
  have hm : t.2.1.filter (mvP t.2.2 read) = t.2.1 := by
    refine List.filter_eq_self.2 fun e he => ?_
    unfold mvP
    rw [Bool.or_eq_true]
    refine .inr ?_
    rw [Bool.not_eq_true']
    refine Bool.eq_false_iff.2 fun hg => ?_
    have hg' : gs (t.2.2.take t.2.2.length) (ky e) = true := by rw [List.take_length]; exact hg
    obtain ⟨k, hk, hz⟩ := gs_take' (Nat.le_refl _) hg'
    have := (hc k hk).2
    rw [hz, gs_of_mem he] at this
    cases this
  have hs : ∀ i, i ≤ t.2.2.length → seF t.2.1 t.2.2 read i = t.2.2.take i := by
    intro i
    induction i with
    | zero => intro _; rfl
    | succ i ih =>
      intro hi
      have hk : keepE t.2.1 t.2.2 read i = true := by
        refine keep_iff.2 ⟨fun k hk hz hb => ?_, by rw [(hc i (by omega)).2, Bool.and_false]⟩
        rcases Nat.lt_trichotomy k i with h' | h' | h'
        · have := (hc i (by omega)).1
          rw [← hz, gs_take h' (by omega)] at this
          cases this
        · rw [h'] at hb
          unfold btr at hb
          omega
        · have := (hc k hk).1
          rw [hz, gs_take h' (by omega)] at this
          cases this
      rw [seF, if_pos hk, ih (by omega), ← take_snoc t.2.2 i ((0 : Int), ([] : List UInt8), (0 : Int)) (by omega)]
  have : stl read t = (t.1, t.2.1, t.2.2) := by
    unfold stl
    rw [hm, hs _ (Nat.le_refl _), List.take_length]
  exact this
theorem stl_twice (read : Bool) (t : TabT) : stl read (stl read t) = stl read t := stl_same read _ (stl_calm read t)
theorem stl_moves_le (read : Bool) (t : TabT) : (stl read t).2.1.length ≤ t.2.1.length := List.length_filter_le ..
theorem stl_ends_le (read : Bool) (t : TabT) : (stl read t).2.2.length ≤ t.2.2.length := seF_le ..
theorem stl_true_moves (t : TabT) : (stl true t).2.1 = t.2.1 := List.filter_eq_self.2 fun e _ => rfl
theorem filter_snoc (m : List EntT) (p : EntT → Bool) (i : Nat) (h : i < m.length) : (m.take (i + 1)).filter p = if p (m.getD i ((0 : Int), ([] : List UInt8), (0 : Int))) = true then (m.take i).filter p ++ [m.getD i ((0 : Int), ([] : List UInt8), (0 : Int))] else (m.take i).filter p := by
  rw [take_snoc m i ((0 : Int), ([] : List UInt8), (0 : Int)) h, List.filter_append]
  cases hp : p (m.getD i ((0 : Int), ([] : List UInt8), (0 : Int))) with
  | true => rw [if_pos rfl, List.filter_cons_of_pos hp]; rfl
  | false => rw [if_neg (by simp), List.filter_cons_of_neg (by rw [hp]; simp)]; simp
/-- What the map of ends holds. -/
def EnOk (E : List EntT) (i : Nat) (en : List (CK × Int)) : Prop := ∀ z, hI en z = gs (E.take i) z ∧ (gs (E.take i) z = true → ∃ b : Nat, mI en z = (b : Int) ∧ b < i ∧ ky (E.getD b ((0 : Int), ([] : List UInt8), (0 : Int))) = z ∧ Bst E i b)
theorem EnOk.put {E : List EntT} {i : Nat} {en : List (CK × Int)} (h : EnOk E i en) (hi : i < E.length) (hb : Bst E (i + 1) i) : EnOk E (i + 1) (mput KT (.int .i64) en (ky (E.getD i ((0 : Int), ([] : List UInt8), (0 : Int)))) (i : Int)) := by
  intro z
  have h2 := hI_put en (ky (E.getD i ((0 : Int), ([] : List UInt8), (0 : Int)))) (i : Int) z
  have hg : gs (E.take (i + 1)) z = (gs (E.take i) z || decide (ky (E.getD i ((0 : Int), ([] : List UInt8), (0 : Int))) = z)) := by rw [take_snoc E i ((0 : Int), ([] : List UInt8), (0 : Int)) hi, gs_snoc]
  refine ⟨?_, fun hz => ?_⟩
  · rw [h2.1, hg, (h z).1]
    congr 1
    exact decide_eq_decide.2 ⟨Eq.symm, Eq.symm⟩
  · by_cases e : z = ky (E.getD i ((0 : Int), ([] : List UInt8), (0 : Int)))
    · exact ⟨i, by rw [h2.2, if_pos e], by omega, e.symm, hb⟩
    · rw [hg, Bool.or_eq_true, decide_eq_true_eq] at hz
      obtain ⟨b, h3, h4, h5, h6⟩ := (h z).2 (hz.resolve_right fun e' => e e'.symm)
      refine ⟨b, by rw [h2.2, if_neg e, h3], by omega, h5, fun k hk hkz => ?_⟩
      by_cases e2 : k = i
      · rw [e2, h5] at hkz; exact absurd hkz.symm e
      · exact h6 k (by omega) hkz
theorem EnOk.stay {E : List EntT} {i : Nat} {en : List (CK × Int)} (h : EnOk E i en) (hi : i < E.length) (hg1 : gs (E.take i) (ky (E.getD i ((0 : Int), ([] : List UInt8), (0 : Int)))) = true) (hr : ∀ b : Nat, mI en (ky (E.getD i ((0 : Int), ([] : List UInt8), (0 : Int)))) = (b : Int) → ¬ (E.getD i ((0 : Int), ([] : List UInt8), (0 : Int))).2.2 < (E.getD b ((0 : Int), ([] : List UInt8), (0 : Int))).2.2) : EnOk E (i + 1) en := by
  intro z
  have hg : gs (E.take (i + 1)) z = (gs (E.take i) z || decide (ky (E.getD i ((0 : Int), ([] : List UInt8), (0 : Int))) = z)) := by rw [take_snoc E i ((0 : Int), ([] : List UInt8), (0 : Int)) hi, gs_snoc]
  have hgz : gs (E.take (i + 1)) z = gs (E.take i) z := by
    rw [hg]
    by_cases e : ky (E.getD i ((0 : Int), ([] : List UInt8), (0 : Int))) = z
    · rw [← e, hg1, Bool.true_or]
    · rw [decide_eq_false e, Bool.or_false]
  refine ⟨by rw [hgz]; exact (h z).1, fun hz => ?_⟩
  rw [hgz] at hz
  obtain ⟨b, h3, h4, h5, h6⟩ := (h z).2 hz
  refine ⟨b, h3, by omega, h5, fun k hk hkz => ?_⟩
  by_cases e2 : k = i
  · rw [e2, h5] at hkz
    rw [e2]
    have := hr b (by rw [hkz]; exact h3)
    unfold btr
    omega
  · exact h6 k (by omega) hkz
theorem implSettleL_ev (t : TabT) (h1 : t.2.1.length ≤ 900000) (h2 : t.2.2.length ≤ 900000) (read : Bool) : EvP (fun k => impl_TableSettle_L58 k read t ((0 : Int), [], []) [] [] t.2.1 (t.2.1.length : Int) (0 : Int)) (fun r => r = stl read t) := by
  have L4 (z : TabT) (mp : List (CK × Bool)) (hmp : ∀ z, kb mp z = gs t.2.1 z) (en : List (CK × Int)) (hen : EnOk t.2.2 t.2.2.length en) : ∀ (n i : Nat), i + n = t.2.2.length → EvP (fun k => impl_TableSettle_L1018 k read z mp en (t.1, t.2.1.filter (mvP t.2.2 read), seF t.2.1 t.2.2 read i) t.2.2 (t.2.2.length : Int) (i : Int)) (fun r => r = stl read t) := by
    intro n
    induction n with
    | zero =>
      intro i h
      refine EvP.fn (fun k => impl_TableSettle_L1018_eq k _ _ _ _ _ _ _ _) (EvP.decN (by omega) (EvP.now ?_))
      rw [show i = t.2.2.length by omega]; rfl
    | succ n ih =>
      intro i h
      have hle := seF_le t.2.1 t.2.2 read i
      refine EvP.fn (fun k => impl_TableSettle_L1018_eq k _ _ _ _ _ _ _ _) (EvP.decY (by omega) (EvP.yes (by omega) (EvP.yes (by omega) ?_)))
      rw [Int.toNat_natCast, w64 (by omega) (by omega)]
      have hg : gs (t.2.2.take t.2.2.length) (ky (t.2.2.getD i ((0 : Int), ([] : List UInt8), (0 : Int)))) = true := gs_take (by omega) (Nat.le_refl _)
      obtain ⟨b, b1, b2, b3, b4⟩ := (hen (ky (t.2.2.getD i ((0 : Int), ([] : List UInt8), (0 : Int))))).2 hg
      have em : mval (Ty.pair (Ty.int IntKind.i64) Ty.str) (Ty.int IntKind.i64) en ((t.2.2.getD i ((0 : Int), ([] : List UInt8), (0 : Int))).1, (t.2.2.getD i ((0 : Int), ([] : List UInt8), (0 : Int))).2.1) = (b : Int) := b1
      have ep : mval (Ty.pair (Ty.int IntKind.i64) Ty.str) Ty.bool mp ((t.2.2.getD i ((0 : Int), ([] : List UInt8), (0 : Int))).1, (t.2.2.getD i ((0 : Int), ([] : List UInt8), (0 : Int))).2.1) = gs t.2.1 (ky (t.2.2.getD i ((0 : Int), ([] : List UInt8), (0 : Int)))) := hmp _
      rw [em, ep]
      have ihy : keepE t.2.1 t.2.2 read i = true → EvP (fun k => impl_TableSettle_L1018 k read z mp en (t.1, t.2.1.filter (mvP t.2.2 read), seF t.2.1 t.2.2 read i ++ [t.2.2.getD i ((0 : Int), ([] : List UInt8), (0 : Int))]) t.2.2 (t.2.2.length : Int) ((i : Int) + 1)) (fun r => r = stl read t) := fun hk => by
        have := ih (i + 1) (by omega)
        rw [seF, if_pos hk] at this
        exact this
      have ihn : ¬ keepE t.2.1 t.2.2 read i = true → EvP (fun k => impl_TableSettle_L1018 k read z mp en (t.1, t.2.1.filter (mvP t.2.2 read), seF t.2.1 t.2.2 read i) t.2.2 (t.2.2.length : Int) ((i : Int) + 1)) (fun r => r = stl read t) := fun hk => by
        have := ih (i + 1) (by omega)
        rw [seF, if_neg hk] at this
        exact this
      refine EvP.dec (fun hbi => ?_) (fun hbi => ihn fun hk => hbi ?_)
      · have hbi : (b : Int) = (i : Int) := hbi
        have e : b = i := by omega
        rw [e] at b4
        refine EvP.ite (fun hr => EvP.ite (fun hm => EvP.yes (ltM (by show (seF t.2.1 t.2.2 read i).length + 1 ≤ _; omega)) (ihy (keep_iff.2 ⟨b4, ?_⟩))) (fun hm => ihn fun hk => ?_)) (fun hr => EvP.yes (ltM (by show (seF t.2.1 t.2.2 read i).length + 1 ≤ _; omega)) (ihy (keep_iff.2 ⟨b4, ?_⟩)))
        · rw [Bool.not_eq_true'] at hm
          rw [hm, Bool.and_false]
        · have := (keep_iff.1 hk).2
          rw [hr, Bool.true_and] at this
          rw [this] at hm
          exact hm rfl
        · rw [Bool.eq_false_iff.2 hr, Bool.false_and]
      · have := Bst.one (by omega) (by omega) b4 (keep_iff.1 hk).1 b3
        show (b : Int) = (i : Int)
        omega
  have L3 (z : TabT) (mp : List (CK × Bool)) (hmp : ∀ z, kb mp z = gs t.2.1 z) (en : List (CK × Int)) (hen : EnOk t.2.2 t.2.2.length en) : ∀ (n i : Nat), i + n = t.2.1.length → EvP (fun k => impl_TableSettle_L506 k read t z mp en (t.1, (t.2.1.take i).filter (mvP t.2.2 read), []) t.2.1 (t.2.1.length : Int) (i : Int)) (fun r => r = stl read t) := by
    intro n
    induction n with
    | zero =>
      intro i h
      refine EvP.fn (fun k => impl_TableSettle_L506_eq k _ _ _ _ _ _ _ _ _) (EvP.decN (by omega) ?_)
      rw [List.take_of_length_le (by omega)]
      exact L4 z mp hmp en hen t.2.2.length 0 (Nat.zero_add _)
    | succ n ih =>
      intro i h
      have hle : ((t.2.1.take i).filter (mvP t.2.2 read)).length ≤ i := Nat.le_trans (List.length_filter_le ..) (by rw [List.length_take]; omega)
      refine EvP.fn (fun k => impl_TableSettle_L506_eq k _ _ _ _ _ _ _ _ _) (EvP.decY (by omega) (EvP.yes (by omega) (EvP.yes (by omega) ?_)))
      rw [Int.toNat_natCast, w64 (by omega) (by omega)]
      have eh : mhas (Ty.pair (Ty.int IntKind.i64) Ty.str) (Ty.int IntKind.i64) en ((t.2.1.getD i ((0 : Int), ([] : List UInt8), (0 : Int))).1, (t.2.1.getD i ((0 : Int), ([] : List UInt8), (0 : Int))).2.1) = gs t.2.2 (ky (t.2.1.getD i ((0 : Int), ([] : List UInt8), (0 : Int)))) := by
        have := (hen (ky (t.2.1.getD i ((0 : Int), ([] : List UInt8), (0 : Int))))).1
        rw [List.take_length] at this
        exact this
      rw [eh]
      have ih' := ih (i + 1) (by omega)
      rw [filter_snoc t.2.1 _ i (by omega)] at ih'
      refine EvP.ite (fun hr => EvP.ite (fun hg => EvP.yes (ltM (by show ((t.2.1.take i).filter (mvP t.2.2 read)).length + 1 ≤ _; omega)) ?_) (fun hg => ?_)) (fun hr => EvP.yes (ltM (by show ((t.2.1.take i).filter (mvP t.2.2 read)).length + 1 ≤ _; omega)) ?_)
      · rw [if_pos (by unfold mvP; rw [hg, Bool.or_true])] at ih'; exact ih'
      · rw [if_neg (by unfold mvP; rw [hr, Bool.false_or]; exact hg)] at ih'; exact ih'
      · rw [if_pos (by unfold mvP; rw [(show read = true by simpa using hr), Bool.true_or])] at ih'; exact ih'
  have L2 (z : TabT) (mp : List (CK × Bool)) (hmp : ∀ z, kb mp z = gs t.2.1 z) : ∀ (n i : Nat) (en : List (CK × Int)), i + n = t.2.2.length → EnOk t.2.2 i en → EvP (fun k => impl_TableSettle_L122 k read t z mp en t.2.2 (t.2.2.length : Int) (i : Int)) (fun r => r = stl read t) := by
    intro n
    induction n with
    | zero =>
      intro i en h hen
      rw [show i = t.2.2.length by omega] at hen ⊢
      exact EvP.fn (fun k => impl_TableSettle_L122_eq k _ _ _ _ _ _ _ _) (EvP.decN (by omega) (L3 z mp hmp en hen t.2.1.length 0 (Nat.zero_add _)))
    | succ n ih =>
      intro i en h hen
      refine EvP.fn (fun k => impl_TableSettle_L122_eq k _ _ _ _ _ _ _ _) (EvP.decY (by omega) (EvP.yes (by omega) (EvP.yes (by omega) ?_)))
      rw [Int.toNat_natCast, w64 (by omega) (by omega)]
      have eh : mhas (Ty.pair (Ty.int IntKind.i64) Ty.str) (Ty.int IntKind.i64) en ((t.2.2.getD i ((0 : Int), ([] : List UInt8), (0 : Int))).1, (t.2.2.getD i ((0 : Int), ([] : List UInt8), (0 : Int))).2.1) = gs (t.2.2.take i) (ky (t.2.2.getD i ((0 : Int), ([] : List UInt8), (0 : Int)))) := (hen (ky (t.2.2.getD i ((0 : Int), ([] : List UInt8), (0 : Int))))).1
      rw [eh]
      refine EvP.ite (fun hh => ?_) (fun hh => ih (i + 1) _ (by omega) (hen.put (by omega) fun k hk hz hb => ?_))
      · rw [Bool.not_eq_false'] at hh
        obtain ⟨b, b1, b2, b3, b4⟩ := (hen (ky (t.2.2.getD i ((0 : Int), ([] : List UInt8), (0 : Int))))).2 hh
        have em : mval (Ty.pair (Ty.int IntKind.i64) Ty.str) (Ty.int IntKind.i64) en ((t.2.2.getD i ((0 : Int), ([] : List UInt8), (0 : Int))).1, (t.2.2.getD i ((0 : Int), ([] : List UInt8), (0 : Int))).2.1) = (b : Int) := b1
        rw [em, Int.toNat_natCast]
        refine EvP.yes (show (0 : Int) ≤ (b : Int) by omega) (EvP.yes (show (b : Int) < (t.2.2.length : Int) by omega) (EvP.dec (fun hr => ih (i + 1) _ (by omega) (hen.put (by omega) fun k hk hz hb => ?_)) (fun hr => ih (i + 1) _ (by omega) (hen.stay (by omega) hh fun c hc => ?_))))
        · by_cases e : k = i
          · rw [e] at hb; unfold btr at hb; omega
          · have := b4 k (by omega) (by rw [hz, b3])
            unfold btr at this hb
            omega
        · have e : c = b := by rw [b1] at hc; omega
          rw [e]; exact hr
      · rw [Bool.not_eq_false', Bool.not_eq_true] at hh
        by_cases e : k = i
        · rw [e] at hb; unfold btr at hb; omega
        · rw [← hz, gs_take (by omega) (by omega)] at hh
          cases hh
  have L1 (z : TabT) : ∀ (n i : Nat) (mp : List (CK × Bool)), i + n = t.2.1.length → (∀ z, kb mp z = gs (t.2.1.take i) z) → EvP (fun k => impl_TableSettle_L58 k read t z mp [] t.2.1 (t.2.1.length : Int) (i : Int)) (fun r => r = stl read t) := by
    intro n
    induction n with
    | zero =>
      intro i mp h hmp
      rw [List.take_of_length_le (by omega)] at hmp
      exact EvP.fn (fun k => impl_TableSettle_L58_eq k _ _ _ _ _ _ _ _) (EvP.decN (by omega) (L2 z mp hmp t.2.2.length 0 [] (Nat.zero_add _) fun z => ⟨rfl, fun h => absurd (show false = true from h) Bool.false_ne_true⟩))
    | succ n ih =>
      intro i mp h hmp
      refine EvP.fn (fun k => impl_TableSettle_L58_eq k _ _ _ _ _ _ _ _) (EvP.decY (by omega) (EvP.yes (by omega) (EvP.yes (by omega) ?_)))
      rw [Int.toNat_natCast, w64 (by omega) (by omega)]
      refine ih (i + 1) _ (by omega) fun y => ?_
      rw [kb_put, hmp, take_snoc t.2.1 i ((0 : Int), ([] : List UInt8), (0 : Int)) (by omega), gs_snoc]
      congr 1
      exact decide_eq_decide.2 ⟨Eq.symm, Eq.symm⟩
  exact L1 _ t.2.1.length 0 [] (Nat.zero_add _) (fun z => rfl)
theorem first_ev (t : TabT) (h2 : t.2.2.length ≤ 900000) (i : Nat) (hi : i < t.2.2.length) : EvP (fun k => spec_l11First k t.1 t.2.1 t.2.2 (i : Int)) (fun r => r = true ↔ Bst t.2.2 t.2.2.length i) := by
  have loop : ∀ (n j : Nat), j + n = t.2.2.length → Bst t.2.2 j i → EvP (fun k => spec_l11First_L26 k (i : Int) t (j : Int)) (fun r => r = true ↔ Bst t.2.2 t.2.2.length i) := by
    intro n
    induction n with
    | zero =>
      intro j h hb
      rw [show j = t.2.2.length by omega] at hb
      exact EvP.fn (fun k => spec_l11First_L26_eq k _ _ _) (EvP.decN (by omega) (EvP.now ⟨fun _ => hb, fun _ => rfl⟩))
    | succ n ih =>
      intro j h hb
      have y : (i : Int) < (t.2.2.length : Int) := by omega
      have up : (ky (t.2.2.getD j ((0 : Int), ([] : List UInt8), (0 : Int))) = ky (t.2.2.getD i ((0 : Int), ([] : List UInt8), (0 : Int))) → ¬ btr t.2.2 j i) → EvP (fun k => spec_l11First_L26 k (i : Int) t ((j : Int) + 1)) (fun r => r = true ↔ Bst t.2.2 t.2.2.length i) := fun hh => ih (j + 1) (by omega) fun k hk hz => by
        by_cases e : k = j
        · rw [e] at hz ⊢; exact hh hz
        · exact hb k (by omega) hz
      have bad : ky (t.2.2.getD j ((0 : Int), ([] : List UInt8), (0 : Int))) = ky (t.2.2.getD i ((0 : Int), ([] : List UInt8), (0 : Int))) → btr t.2.2 j i → (false = true ↔ Bst t.2.2 t.2.2.length i) := fun hz hbt => ⟨fun h => absurd h (by decide), fun h' => absurd hbt (h' j (by omega) hz)⟩
      refine EvP.fn (fun k => spec_l11First_L26_eq k _ _ _) (EvP.decY (by omega) (EvP.yes (by omega) (EvP.yes (by omega) (EvP.yes (by omega) (EvP.yes y ?_)))))
      rw [Int.toNat_natCast, Int.toNat_natCast, w64 (by omega) (by omega)]
      refine EvP.dec (fun c1 => EvP.yes (by omega) (EvP.yes y (EvP.dec (fun c2 => EvP.yes (by omega) (EvP.yes y (EvP.decF (fun c3 => EvP.yes (by omega) (EvP.yes y (EvP.dec (fun c4 => EvP.dec (fun c5 => EvP.now (bad (ky_eq.2 ⟨c1, c2⟩) (.inr ⟨c4, by omega⟩))) (fun c5 => up fun _ => ?_)) (fun c4 => up fun _ => ?_)))) (fun c3 => EvP.now (bad (ky_eq.2 ⟨c1, c2⟩) (.inl c3)))))) (fun c2 => up fun hz => absurd (ky_eq.1 hz).2 c2)))) (fun c1 => up fun hz => absurd (ky_eq.1 hz).1 c1)
      · unfold btr; omega
      · unfold btr; omega
  exact EvP.fn (fun k => spec_l11First_eq k _ _ _ _) (loop t.2.2.length 0 (Nat.zero_add _) fun k hk => absurd hk (by omega))
theorem specSettleL_ev (t : TabT) (h1 : t.2.1.length ≤ 900000) (h2 : t.2.2.length ≤ 900000) (read : Bool) : EvP (fun k => spec_l11Settle_L58 k read t ((0 : Int), [], []) (t.1, [], []) (0 : Int)) (fun r => r = stl read t) := by
  have L2 (z : TabT) : ∀ (n i : Nat), i + n = t.2.2.length → EvP (fun k => spec_l11Settle_L122 k read t z (t.1, t.2.1.filter (mvP t.2.2 read), seF t.2.1 t.2.2 read i) (i : Int)) (fun r => r = stl read t) := by
    intro n
    induction n with
    | zero =>
      intro i h
      refine EvP.fn (fun k => spec_l11Settle_L122_eq k _ _ _ _ _) (EvP.decN (by omega) (EvP.now ?_))
      rw [show i = t.2.2.length by omega]; rfl
    | succ n ih =>
      intro i h
      have hle := seF_le t.2.1 t.2.2 read i
      have y : (i : Int) < (t.2.2.length : Int) := by omega
      have ihy : keepE t.2.1 t.2.2 read i = true → EvP (fun k => spec_l11Settle_L122 k read t z (t.1, t.2.1.filter (mvP t.2.2 read), seF t.2.1 t.2.2 read i ++ [t.2.2.getD i ((0 : Int), ([] : List UInt8), (0 : Int))]) ((i : Int) + 1)) (fun r => r = stl read t) := fun hk => by
        have := ih (i + 1) (by omega)
        rw [seF, if_pos hk] at this
        exact this
      have ihn : ¬ keepE t.2.1 t.2.2 read i = true → EvP (fun k => spec_l11Settle_L122 k read t z (t.1, t.2.1.filter (mvP t.2.2 read), seF t.2.1 t.2.2 read i) ((i : Int) + 1)) (fun r => r = stl read t) := fun hk => by
        have := ih (i + 1) (by omega)
        rw [seF, if_neg hk] at this
        exact this
      refine EvP.fn (fun k => spec_l11Settle_L122_eq k _ _ _ _ _) (EvP.decY y (EvP.yes (by omega) (EvP.yes y (EvP.yes (by omega) (EvP.yes y ?_)))))
      rw [Int.toNat_natCast, w64 (by omega) (by omega)]
      refine EvP.bind (specGo_ev t (by omega) _ _) fun x hx => EvP.bind (first_ev t h2 i (by omega)) fun f hf => ?_
      have hx2 : x.2 = gs t.2.1 (ky (t.2.2.getD i ((0 : Int), ([] : List UInt8), (0 : Int)))) := by rw [hx]; rfl
      rw [hx2]
      refine EvP.ite (fun hft => EvP.ite (fun hr => EvP.ite (fun hg => EvP.yes (by omega) (EvP.yes y (EvP.yes (ltM (by show (seF t.2.1 t.2.2 read i).length + 1 ≤ _; omega)) (ihy (keep_iff.2 ⟨hf.1 hft, ?_⟩))))) (fun hg => ihn fun hk => ?_)) (fun hr => EvP.yes (by omega) (EvP.yes y (EvP.yes (ltM (by show (seF t.2.1 t.2.2 read i).length + 1 ≤ _; omega)) (ihy (keep_iff.2 ⟨hf.1 hft, ?_⟩)))))) (fun hft => ihn fun hk => hft (hf.2 (keep_iff.1 hk).1))
      · rw [Bool.not_eq_true'] at hg
        rw [hg, Bool.and_false]
      · have := (keep_iff.1 hk).2
        rw [hr, Bool.true_and] at this
        rw [this] at hg
        exact hg rfl
      · rw [Bool.eq_false_iff.2 hr, Bool.false_and]
  have L1 (z : TabT) : ∀ (n i : Nat), i + n = t.2.1.length → EvP (fun k => spec_l11Settle_L58 k read t z (t.1, (t.2.1.take i).filter (mvP t.2.2 read), []) (i : Int)) (fun r => r = stl read t) := by
    intro n
    induction n with
    | zero =>
      intro i h
      refine EvP.fn (fun k => spec_l11Settle_L58_eq k _ _ _ _ _) (EvP.decN (by omega) ?_)
      rw [List.take_of_length_le (by omega)]
      exact L2 z t.2.2.length 0 (Nat.zero_add _)
    | succ n ih =>
      intro i h
      have y : (i : Int) < (t.2.1.length : Int) := by omega
      have hle : ((t.2.1.take i).filter (mvP t.2.2 read)).length ≤ i := Nat.le_trans (List.length_filter_le ..) (by rw [List.length_take]; omega)
      refine EvP.fn (fun k => spec_l11Settle_L58_eq k _ _ _ _ _) (EvP.decY y (EvP.yes (by omega) (EvP.yes y (EvP.yes (by omega) (EvP.yes y ?_)))))
      rw [Int.toNat_natCast, w64 (by omega) (by omega)]
      have ih' := ih (i + 1) (by omega)
      rw [filter_snoc t.2.1 _ i (by omega)] at ih'
      refine EvP.bind (specEnd_ev t (by omega) _ _) fun x hx => ?_
      have hx2 : x.2 = gs t.2.2 (ky (t.2.1.getD i ((0 : Int), ([] : List UInt8), (0 : Int)))) := by rw [hx]; rfl
      rw [hx2]
      refine EvP.ite (fun hr => EvP.ite (fun hg => EvP.yes (by omega) (EvP.yes y (EvP.yes (ltM (by show ((t.2.1.take i).filter (mvP t.2.2 read)).length + 1 ≤ _; omega)) ?_))) (fun hg => ?_)) (fun hr => EvP.yes (by omega) (EvP.yes y (EvP.yes (ltM (by show ((t.2.1.take i).filter (mvP t.2.2 read)).length + 1 ≤ _; omega)) ?_)))
      · rw [if_pos (by unfold mvP; rw [hg, Bool.or_true])] at ih'; exact ih'
      · rw [if_neg (by unfold mvP; rw [hr, Bool.false_or]; exact hg)] at ih'; exact ih'
      · rw [if_pos (by unfold mvP; rw [(show read = true by simpa using hr), Bool.true_or])] at ih'; exact ih'
  exact L1 _ t.2.1.length 0 (Nat.zero_add _)
theorem eqMv_refl (l : List EntT) (hl : l.length ≤ 900000) : EvP (fun k => slices_Equal_Simpl_Move_impl_Move k l l) (fun r => r = true) := by
  have loop : ∀ (n i : Nat), i + n = l.length → EvP (fun k => slices_Equal_Simpl_Move_impl_Move_L58 k l l (l.length : Int) (i : Int)) (fun r => r = true) := by
    intro n
    induction n with
    | zero => intro i h; exact EvP.fn (fun k => slices_Equal_Simpl_Move_impl_Move_L58_eq k _ _ _ _) (EvP.decN (by omega) (EvP.now rfl))
    | succ n ih =>
      intro i h
      refine EvP.fn (fun k => slices_Equal_Simpl_Move_impl_Move_L58_eq k _ _ _ _) (EvP.decY (by omega) (EvP.yes (by omega) (EvP.yes (by omega) (EvP.yes (by omega) (EvP.yes (by omega) (EvP.no (by simp) ?_))))))
      rw [w64 (by omega) (by omega)]
      exact ih (i + 1) (by omega)
  exact EvP.fn (fun k => slices_Equal_Simpl_Move_impl_Move_eq k _ _) (EvP.no (by simp) (loop l.length 0 (Nat.zero_add _)))
theorem eqEn_refl (l : List EntT) (hl : l.length ≤ 900000) : EvP (fun k => slices_Equal_Simpl_End_impl_End k l l) (fun r => r = true) := by
  have loop : ∀ (n i : Nat), i + n = l.length → EvP (fun k => slices_Equal_Simpl_End_impl_End_L58 k l l (l.length : Int) (i : Int)) (fun r => r = true) := by
    intro n
    induction n with
    | zero => intro i h; exact EvP.fn (fun k => slices_Equal_Simpl_End_impl_End_L58_eq k _ _ _ _) (EvP.decN (by omega) (EvP.now rfl))
    | succ n ih =>
      intro i h
      refine EvP.fn (fun k => slices_Equal_Simpl_End_impl_End_L58_eq k _ _ _ _) (EvP.decY (by omega) (EvP.yes (by omega) (EvP.yes (by omega) (EvP.yes (by omega) (EvP.yes (by omega) (EvP.no (by simp) ?_))))))
      rw [w64 (by omega) (by omega)]
      exact ih (i + 1) (by omega)
  exact EvP.fn (fun k => slices_Equal_Simpl_End_impl_End_eq k _ _) (EvP.no (by simp) (loop l.length 0 (Nat.zero_add _)))
theorem tabSame_refl (t : TabT) (h1 : t.2.1.length ≤ 900000) (h2 : t.2.2.length ≤ 900000) : EvP (fun k => impl_TableSame k t.1 t.2.1 t.2.2 t.1 t.2.1 t.2.2) (fun r => r = true) :=
  EvP.fn (fun k => impl_TableSame_eq k _ _ _ _ _ _) (EvP.decY rfl (EvP.bind (eqMv_refl _ h1) fun a ha => EvP.yes ha (EvP.bind (eqEn_refl _ h2) fun b hb => EvP.now hb)))
theorem drawSettle_ev (l : List Int) (h : ∀ x ∈ l, (Lit.int .u8 x).wf = true) : EvP (fun k => spec_DrawTableSettle k l) (fun r => Tb 500001 r.1) :=
  EvP.fn (fun k => spec_DrawTableSettle_eq k _) (EvP.bind (open_ev l h) fun a ha => EvP.bind (l6Some_ev (m := 1) (ha.less (by omega))) fun r hr => EvP.bind (pick_ev (m := 0) hr.2.2 (by omega) (by omega)) fun b hb => EvP.now hr.2.1)
theorem implT_ev (t : TabT) (h1 : t.2.1.length ≤ 900000) (h2 : t.2.2.length ≤ 900000) : EvP (fun k => impl_TableSettle k t.1 t.2.1 t.2.2) (fun r => r = stl true t) := EvP.fn (fun k => impl_TableSettle_eq k _ _ _) (implSettleL_ev t h1 h2 true)
theorem implF_ev (t : TabT) (h1 : t.2.1.length ≤ 900000) (h2 : t.2.2.length ≤ 900000) : EvP (fun k => impl_TableSettle' k t.1 t.2.1 t.2.2) (fun r => r = stl false t) := EvP.fn (fun k => impl_TableSettle'_eq k _ _ _) (implSettleL_ev t h1 h2 false)
theorem specT_ev (t : TabT) (h1 : t.2.1.length ≤ 900000) (h2 : t.2.2.length ≤ 900000) : EvP (fun k => spec_TableSettle k t.1 t.2.1 t.2.2) (fun r => r = stl true t) := EvP.fn (fun k => spec_TableSettle_eq k _ _ _) (EvP.bind (EvP.fn (fun k => spec_l11Settle_eq k _ _ _) (specSettleL_ev t h1 h2 true)) fun r hr => EvP.now hr)
theorem specF_ev (t : TabT) (h1 : t.2.1.length ≤ 900000) (h2 : t.2.2.length ≤ 900000) : EvP (fun k => spec_TableSettle' k t.1 t.2.1 t.2.2) (fun r => r = stl false t) := EvP.fn (fun k => spec_TableSettle'_eq k _ _ _) (EvP.bind (EvP.fn (fun k => spec_l11Settle'_eq k _ _ _) (specSettleL_ev t h1 h2 false)) fun r hr => EvP.now hr)
theorem law_ev (l : List Int) (h : ∀ x ∈ l, (Lit.int .u8 x).wf = true) : EvP (fun k => laws_FnSettleBoth k l) (fun r => r = true) := by
  refine EvP.fn (fun k => laws_FnSettleBoth_eq k _) (EvP.dec (fun _ => EvP.now rfl) (fun _ => EvP.bind (drawSettle_ev l h) fun d hd => ?_))
  have hd : Tb 500001 d.1 := hd
  generalize d.1 = t at hd ⊢
  have h1 : t.2.1.length ≤ 900000 := by have := hd.1; omega
  have h2 : t.2.2.length ≤ 900000 := by have := hd.2; omega
  have m1 := stl_moves_le false t
  have m2 := stl_ends_le false t
  have m3 := stl_ends_le true t
  have m4 := stl_true_moves t
  have m5 : (stl true t).2.2.length ≤ (stl false t).2.2.length := seF_tf t.2.1 t.2.2 t.2.2.length
  have n1 : (stl false t).2.1.length ≤ 900000 := by omega
  have n2 : (stl false t).2.2.length ≤ 900000 := by omega
  have n3 : (stl true t).2.1.length ≤ 900000 := by rw [m4]; exact h1
  have n4 : (stl true t).2.2.length ≤ 900000 := by omega
  refine EvP.bind (implT_ev t h1 h2) fun a ha => EvP.bind (implF_ev t h1 h2) fun b hb => EvP.bind (specT_ev t h1 h2) fun c hc => ?_
  subst ha
  subst hb
  subst hc
  refine EvP.bind (tabSame_refl _ n3 n4) fun x hx => ?_
  subst hx
  refine EvP.yes rfl (EvP.bind (specF_ev t h1 h2) fun c hc => ?_)
  subst hc
  refine EvP.bind (tabSame_refl _ n1 n2) fun x hx => ?_
  subst hx
  refine EvP.no (by simp) (EvP.decY (by rw [m4]) (EvP.decY (by omega) (EvP.decY (by omega) (EvP.bind (implClash_ev t h1 h2) fun c hc => EvP.decF (fun h0 => ?_) (fun _ => EvP.now rfl)))))
  have hc0 : clF t.2.1 t.2.2 t.2.2.length = [] := by
    rw [← hc]
    exact List.eq_nil_of_length_eq_zero (by omega)
  have e1 := stl_same true t hc0
  have e2 := stl_same false t hc0
  rw [e1, e2]
  exact EvP.bind (tabSame_refl t h1 h2) fun b hb => EvP.now hb
end Go.Proofs.Ytglbhoccilomiaa.Pure
