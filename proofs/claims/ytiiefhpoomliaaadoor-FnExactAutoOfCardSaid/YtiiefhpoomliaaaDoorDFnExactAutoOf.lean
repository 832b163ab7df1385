/- What the reader of draws answers: they answer, and within which bounds. -/
import Derived.Test.YtiiefhpoomliaaaDoorEv
import Derived.Test.YtiiefhpoomliaaaDoorEqFnExactAutoOf
namespace Go.Proofs.YtiiefhpoomliaaaDoor.Pure
open Go Go.Proofs.YtiiefhpoomliaaaDoor.Eng Go.Proofs.YtiiefhpoomliaaaDoor.Eq Go.Proofs.YtiiefhpoomliaaaDoor.Ev
set_option autoImplicit false
set_option linter.unusedVariables false
set_option linter.unusedSimpArgs false
set_option linter.unnecessarySimpa false

def Bytes (s : List Int) : Prop := (∀ x ∈ s, 0 ≤ x ∧ x ≤ 255) ∧ s.length ≤ 2000
/-- A reader, m draws ahead. -/
def Rd (m : Nat) (b : List Int) (p : Int) : Prop := Bytes b ∧ 0 ≤ p ∧ p + m ≤ 100000000
theorem Rd.less {m n : Nat} {b : List Int} {p : Int} (h : Rd m b p) (hn : n ≤ m) : Rd n b p := ⟨h.1, h.2.1, by have := h.2.2; omega⟩

/-! signs -/
def small (c : UInt8) : Bool := decide (97 ≤ c.toNat) && decide (c.toNat ≤ 100)
theorem l1Small_ev (c : UInt8) : EvP (fun k => spec_l1Small k ((c.toNat : Nat) : Int)) (fun r => r = small c) := by
  refine EvP.fn (fun k => spec_l1Small_eq k _) (EvP.dec (fun h => EvP.now ?_) (fun h => EvP.now ?_))
  · have h1 : 97 ≤ c.toNat := by omega
    have e : decide ((c.toNat : Int) ≤ 100) = decide (c.toNat ≤ 100) := by congr 1; exact propext ⟨fun h => by omega, fun h => by omega⟩
    rw [e]; simp [small, h1]
  · have h1 : ¬ 97 ≤ c.toNat := by omega
    simp [small, h1]
theorem drop_cons {α : Type} (l : List α) (i : Nat) (d : α) (h : i < l.length) : l.drop i = l.getD i d :: l.drop (i + 1) := by
  rw [List.drop_eq_getElem_cons h, List.getD_eq_getElem?_getD, List.getElem?_eq_getElem h]; rfl
/-! texts -/
def textOk (s : List UInt8) : Bool := s.all small && decide (s.length ≤ 8)
theorem specTextOk_loop (s : List UInt8) (hs : s.length < 4611686018427387904) : ∀ (n i : Nat), i + n = s.length → EvP (fun k => spec_TextOk_L26 k s (i : Int)) (fun r => r = ((s.drop i).all small && decide (s.length ≤ 8)))
  | 0, i, h => by
    refine EvP.fn (fun k => spec_TextOk_L26_eq k s _) (EvP.dec (fun h' => absurd h' (by omega)) (fun _ => EvP.now ?_))
    have e : decide ((s.length : Int) ≤ 8) = decide (s.length ≤ 8) := by congr 1; exact propext ⟨fun h => by omega, fun h => by omega⟩
    rw [e, List.drop_eq_nil_of_le (by omega)]; simp
  | n + 1, i, h => by
    refine EvP.fn (fun k => spec_TextOk_L26_eq k s _) (EvP.dec (fun _ => EvP.yes (by omega) (EvP.yes (by omega) ?_)) (fun h' => absurd (show (i : Int) < s.length by omega) h'))
    rw [Int.toNat_natCast]
    refine EvP.bind (l1Small_ev _) fun b hb => ?_
    subst hb
    rw [drop_cons s i 0 (by omega)]
    cases hc : small (s.getD i 0) with
    | false => exact EvP.yes rfl (EvP.now (by rw [List.all_cons, hc]; rfl))
    | true =>
      refine EvP.no (by simp) ?_
      rw [w64 (by omega) (by omega)]
      have := specTextOk_loop s hs n (i + 1) (by omega)
      refine this.mono fun r hr => by rw [hr, List.all_cons, hc, Bool.true_and]
theorem specTextOk_ev (s : List UInt8) (hs : s.length < 4611686018427387904) : EvP (fun k => spec_TextOk k s) (fun r => r = textOk s) := by
  refine EvP.fn (fun k => spec_TextOk_eq k s) ((specTextOk_loop s hs s.length 0 (by omega)).mono fun r hr => by rw [hr]; rfl)
/-! automata drawn -/
abbrev AutoT := Int × List Bool × List (List Int)
/-- Not large. -/
def Sml (a : AutoT) : Prop := a.2.1.length ≤ 10 ∧ a.2.2.length ≤ 10 ∧ ∀ r ∈ a.2.2, r.length ≤ 10
theorem mE {n : Nat} (h : n ≤ 2000000) : n < maxLenE := by unfold maxLenE; omega
theorem specAutoOf_loop (s : List UInt8) (hs : s.length ≤ 5) (hok : s.all small = true) (x : AutoT) : ∀ (n i : Nat) (y : AutoT), i + n = s.length + 1 → y.2.1.length ≤ i → y.2.2.length ≤ i → (∀ r ∈ y.2.2, r.length ≤ 10) →
    EvP (fun k => spec_AutoOf_L122 k s x y (i : Int)) (fun r => r.2 = true ∧ Sml r.1)
  | 0, i, y, h, h1, h2, h3 => by
    refine EvP.fn (fun k => spec_AutoOf_L122_eq k _ _ _ _) (EvP.decN (by omega) (EvP.now ⟨rfl, ?_, ?_, h3⟩))
    · show y.2.1.length ≤ 10; omega
    · show y.2.2.length ≤ 10; omega
  | n + 1, i, y, h, h1, h2, h3 => by
    have next : ∀ (row : List Int), row.length ≤ 10 → EvP (fun k => spec_AutoOf_L7827 k s (x.fst, x.snd.fst, x.snd.snd) (y.fst, y.snd.fst, y.snd.snd) (i : Int) row) (fun r => r.2 = true ∧ Sml r.1) := fun row hrow => by
      refine EvP.fn (fun k => spec_AutoOf_L7827_eq k _ _ _ _ _) (EvP.yes (mE (by simp; omega)) (EvP.yes (mE (by simp; omega)) ?_))
      rw [w64 (by omega) (by omega)]
      refine specAutoOf_loop s hs hok (x.fst, x.snd.fst, x.snd.snd) n (i + 1) _ (by omega) (by simp; omega) (by simp; omega) (fun r hr => ?_)
      rcases List.mem_append.1 hr with hr | hr
      · exact h3 r hr
      · rw [List.mem_singleton.1 hr]; exact hrow
    refine EvP.fn (fun k => spec_AutoOf_L122_eq k _ _ _ _) (EvP.decY (by omega) (EvP.dec (fun h' => ?_) (fun h' => next _ (by simp))))
    have hc : small (s.getD i 0) = true := List.all_eq_true.1 hok _ (getD_mem s i 0 (by omega))
    simp only [small, Bool.and_eq_true, decide_eq_true_eq] at hc
    refine EvP.yes (by omega) (EvP.yes h' ?_)
    rw [Int.toNat_natCast]
    have e : IntKind.i64.wrap (IntKind.u8.wrap (((s.getD i 0).toNat : Int) - 97)) = ((s.getD i 0).toNat : Int) - 97 := by
      rw [w8 (by omega) (by omega), w64 (by omega) (by omega)]
    rw [e]
    exact EvP.yes (by omega) (EvP.yes (by show ((s.getD i 0).toNat : Int) - 97 < 4; omega) (next _ (by simp)))
theorem specAutoOf_ev (s : List UInt8) (hs : s.length ≤ 2000000) : EvP (fun k => spec_AutoOf k s) (fun r => Sml r.1) := by
  refine EvP.fn (fun k => spec_AutoOf_eq k s) (EvP.bind (specTextOk_ev s (by omega)) fun b hb => ?_)
  subst hb
  have z : Sml ((0 : Int), ([] : List Bool), ([] : List (List Int))) := ⟨by simp, by simp, fun r hr => by simp at hr⟩
  cases h : textOk s with
  | false => exact EvP.no (by simp) (EvP.now z)
  | true =>
    refine EvP.yes rfl (EvP.dec (fun _ => EvP.now z) (fun h' => ?_))
    simp only [textOk, Bool.and_eq_true] at h
    exact (specAutoOf_loop s (by omega) h.1 _ (s.length + 1) 0 _ (by omega) (by simp) (by simp) (fun r hr => by simp at hr)).mono fun r hr => hr.2
/-- Rows of four. -/
def Fours (a : AutoT) : Prop := a.2.1.length ≤ 6 ∧ 1 ≤ a.2.2.length ∧ a.2.2.length ≤ 6 ∧ ∀ r ∈ a.2.2, r.length = 4
theorem Fours.sml {a : AutoT} (h : Fours a) : Sml a := ⟨by have := h.1; omega, by have := h.2.2.1; omega, fun r hr => by rw [h.2.2.2 r hr]; omega⟩
theorem set_mem {α : Type} {l : List α} {i : Nat} {x y : α} (h : y ∈ l.set i x) : y = x ∨ y ∈ l := by
  rcases List.mem_or_eq_of_mem_set h with h | h
  · exact .inr h
  · exact .inl h
/-! valid automata -/
def goalB (n : Nat) (x : Int) : Bool := decide (-1 ≤ x) && decide (x < n)
def rowOk (n : Nat) (row : List Int) : Bool := decide (row.length = 4) && row.all (goalB n)
def autoOk (a : AutoT) : Bool := decide (1 ≤ a.2.1.length) && decide (a.2.1.length ≤ 6) && decide (a.2.2.length = a.2.1.length) && decide (0 ≤ a.1) && decide (a.1 < a.2.1.length) && a.2.2.all (rowOk a.2.1.length)
/-- Short enough to be told. -/
def Mid (a : AutoT) : Prop := a.2.1.length ≤ 2000000 ∧ a.2.2.length ≤ 2000000 ∧ ∀ r ∈ a.2.2, r.length ≤ 2000000
theorem Sml.mid {a : AutoT} (h : Sml a) : Mid a := ⟨by have := h.1; omega, by have := h.2.1; omega, fun r hr => by have := h.2.2 r hr; omega⟩
/-! products -/
abbrev PairsT := List (Int × Int)
/-- The place of two places among others, or -1. -/
def fi : PairsT → Int × Int → Int
  | [], _ => -1
  | x :: l, y => if x = y then 0 else (if fi l y < 0 then -1 else fi l y + 1)
theorem fi_range (y : Int × Int) : ∀ l : PairsT, (fi l y = -1 ∧ y ∉ l) ∨ (0 ≤ fi l y ∧ fi l y < l.length ∧ l.getD (fi l y).toNat (0, 0) = y)
  | [] => .inl ⟨rfl, by simp⟩
  | x :: l => by
    unfold fi
    split
    · rename_i h; right; exact ⟨by omega, by simp, by simpa using h⟩
    · rename_i h
      rcases fi_range y l with ⟨h1, h2⟩ | ⟨h1, h2, h3⟩
      · left; rw [h1]; exact ⟨rfl, by simp only [List.mem_cons, not_or]; exact ⟨Ne.symm h, h2⟩⟩
      · right
        have : ¬ fi l y < 0 := by omega
        rw [if_neg this]
        refine ⟨by omega, by simp; omega, ?_⟩
        have e : (fi l y + 1).toNat = (fi l y).toNat + 1 := by omega
        rw [e]; exact h3
theorem fi_step (l : PairsT) (y : Int × Int) (i : Nat) (h : i < l.length) (hd : ¬ l.getD i (0, 0) = y) : fi (l.drop i) y = (if fi (l.drop (i + 1)) y < 0 then -1 else fi (l.drop (i + 1)) y + 1) := by
  rw [drop_cons l i (0, 0) h, fi, if_neg hd]
/-- Where one goes. -/
def goR (a : AutoT) (p : Int) (k : Nat) : Int := (a.2.2.getD p.toNat []).getD k 0
def endR (a : AutoT) (p : Int) : Bool := a.2.1.getD p.toNat false
def cellB (a b : AutoT) (p : Int × Int) (k : Nat) (ps : PairsT) : PairsT × Int :=
  if 0 ≤ goR a p.1 k ∧ 0 ≤ goR b p.2 k then (if fi ps (goR a p.1 k, goR b p.2 k) < 0 then (ps ++ [(goR a p.1 k, goR b p.2 k)], (ps.length : Int)) else (ps, fi ps (goR a p.1 k, goR b p.2 k))) else (ps, -1)
def rowB (a b : AutoT) (p : Int × Int) : Nat → Nat → PairsT → List Int → PairsT × List Int
  | 0, _, ps, row => (ps, row)
  | n + 1, j, ps, row => rowB a b p n (j + 1) (cellB a b p j ps).1 (row ++ [(cellB a b p j ps).2])
def bothB (a b : AutoT) : Nat → Nat → PairsT → List Bool → List (List Int) → PairsT × List Bool × List (List Int)
  | 0, _, ps, es, gs => (ps, es, gs)
  | n + 1, i, ps, es, gs => if i < ps.length then bothB a b n (i + 1) (rowB a b (ps.getD i (0, 0)) 4 0 ps []).1 (es ++ [endR a (ps.getD i (0, 0)).1 && endR b (ps.getD i (0, 0)).2]) (gs ++ [(rowB a b (ps.getD i (0, 0)) 4 0 ps []).2]) else (ps, es, gs)
def wrapB (o : AutoT) : AutoT × Bool := if autoOk o then (o, true) else ((0, [], []), false)
def both (a b : AutoT) : AutoT × Bool := if autoOk a && autoOk b then wrapB (0, (bothB a b 37 0 [(a.1, b.1)] [] []).2) else ((0, [], []), false)
/-- Pairs of places, each once. -/
def PsOk (a b : AutoT) (ps : PairsT) : Prop := ps.Nodup ∧ ∀ p ∈ ps, 0 ≤ p.1 ∧ p.1 < a.2.1.length ∧ 0 ≤ p.2 ∧ p.2 < b.2.1.length
structure OkA (a : AutoT) : Prop where
  n : a.2.1.length ≤ 6
  l : a.2.2.length = a.2.1.length
  b0 : 0 ≤ a.1
  b1 : a.1 < a.2.1.length
  r4 : ∀ r ∈ a.2.2, r.length = 4
  rg : ∀ r ∈ a.2.2, ∀ x ∈ r, -1 ≤ x ∧ x < a.2.1.length
theorem okA {a : AutoT} (h : autoOk a = true) : OkA a := by
  simp only [autoOk, Bool.and_eq_true, decide_eq_true_eq, List.all_eq_true] at h
  obtain ⟨⟨⟨⟨⟨h1, h2⟩, h3⟩, h4⟩, h5⟩, h6⟩ := h
  refine ⟨h2, h3, h4, h5, fun r hr => ?_, fun r hr x hx => ?_⟩
  · have := h6 r hr; simp only [rowOk, Bool.and_eq_true, decide_eq_true_eq] at this; exact this.1
  · have := h6 r hr
    simp only [rowOk, Bool.and_eq_true, decide_eq_true_eq, List.all_eq_true] at this
    have := this.2 x hx
    simp only [goalB, Bool.and_eq_true, decide_eq_true_eq] at this
    exact this
theorem OkA.mid {a : AutoT} (h : OkA a) : Mid a := ⟨by have := h.n; omega, by have := h.n; have := h.l; omega, fun r hr => by rw [h.r4 r hr]; omega⟩
theorem OkA.go {a : AutoT} (h : OkA a) {p : Int} (h0 : 0 ≤ p) (h1 : p < a.2.1.length) {k : Nat} (hk : k < 4) : -1 ≤ goR a p k ∧ goR a p k < a.2.1.length ∧ (a.2.2.getD p.toNat []).length = 4 := by
  have hm : a.2.2.getD p.toNat [] ∈ a.2.2 := getD_mem _ _ _ (by have := h.l; omega)
  have h4 := h.r4 _ hm
  have := h.rg _ hm _ (getD_mem _ k 0 (by omega))
  exact ⟨this.1, this.2, h4⟩
theorem nodup_lt : ∀ (n : Nat) (l : List Nat), l.Nodup → (∀ x ∈ l, x < n) → l.length ≤ n
  | 0, l, _, h => by
    cases l with
    | nil => simp
    | cons x l => exact absurd (h x (by simp)) (Nat.not_lt_zero _)
  | n + 1, l, hn, h => by
    by_cases hm : n ∈ l
    · have h1 := nodup_lt n (l.erase n) (hn.erase n) (fun x hx => by
        have := (hn.mem_erase_iff.1 hx)
        have := h x this.2
        omega)
      rw [List.length_erase_of_mem hm] at h1
      omega
    · have := nodup_lt n l hn (fun x hx => by
        have h2 := h x hx
        have : x ≠ n := fun e => hm (e ▸ hx)
        omega)
      omega
theorem PsOk.len {a b : AutoT} (ha : OkA a) (hb : OkA b) {ps : PairsT} (h : PsOk a b ps) : ps.length ≤ 36 := by
  have hn := ha.n
  have hm := hb.n
  have h1 : (ps.map fun p => p.1.toNat * 6 + p.2.toNat).Nodup := by
    refine List.pairwise_map.2 (h.1.imp_of_mem fun {p q} hp hq hne e => hne ?_)
    have h1 := h.2 p hp
    have h2 := h.2 q hq
    exact Prod.ext (by omega) (by omega)
  have := nodup_lt 36 _ h1 (fun x hx => by
    obtain ⟨p, hp, rfl⟩ := List.mem_map.1 hx
    have h1 := h.2 p hp
    omega)
  simpa using this
theorem cell_ok {a b : AutoT} (ha : OkA a) (hb : OkA b) {ps : PairsT} (h : PsOk a b ps) {p : Int × Int} (hp : 0 ≤ p.1 ∧ p.1 < a.2.1.length ∧ 0 ≤ p.2 ∧ p.2 < b.2.1.length) {k : Nat} (hk : k < 4) :
    PsOk a b (cellB a b p k ps).1 := by
  unfold cellB
  split
  · rename_i h0
    split
    · rename_i hf
      have hnm : (goR a p.1 k, goR b p.2 k) ∉ ps := by
        rcases fi_range (goR a p.1 k, goR b p.2 k) ps with ⟨_, h2⟩ | ⟨h1, _⟩
        · exact h2
        · omega
      have g1 := ha.go hp.1 hp.2.1 hk
      have g2 := hb.go hp.2.2.1 hp.2.2.2 hk
      refine ⟨?_, fun q hq => ?_⟩
      · exact List.nodup_append.2 ⟨h.1, by simp, fun x hx y hy => by rw [List.mem_singleton.1 hy]; exact fun e => hnm (e ▸ hx)⟩
      · rcases List.mem_append.1 hq with hq | hq
        · exact h.2 q hq
        · rw [List.mem_singleton.1 hq]; exact ⟨h0.1, g1.2.1, h0.2, g2.2.1⟩
    · exact h
  · exact h
theorem row_ok {a b : AutoT} (ha : OkA a) (hb : OkA b) {p : Int × Int} (hp : 0 ≤ p.1 ∧ p.1 < a.2.1.length ∧ 0 ≤ p.2 ∧ p.2 < b.2.1.length) : ∀ (n j : Nat) {ps : PairsT} {row : List Int}, j + n ≤ 4 → PsOk a b ps → PsOk a b (rowB a b p n j ps row).1
  | 0, j, ps, row, _, h => h
  | n + 1, j, ps, row, hj, h => row_ok ha hb hp n (j + 1) (by omega) (cell_ok ha hb h hp (by omega))
theorem start_ok {a b : AutoT} (ha : OkA a) (hb : OkA b) : PsOk a b [(a.1, b.1)] :=
  ⟨by simp, fun p hp => by rw [List.mem_singleton.1 hp]; exact ⟨ha.b0, ha.b1, hb.b0, hb.b1⟩⟩
theorem cell_pre (a b : AutoT) (p : Int × Int) (k : Nat) (ps : PairsT) : ∃ t, (cellB a b p k ps).1 = ps ++ t := by
  unfold cellB
  split
  · split
    · exact ⟨_, rfl⟩
    · exact ⟨[], by simp⟩
  · exact ⟨[], by simp⟩
theorem row_pre (a b : AutoT) (p : Int × Int) : ∀ (n j : Nat) (ps : PairsT) (row : List Int), ∃ t, (rowB a b p n j ps row).1 = ps ++ t
  | 0, j, ps, row => ⟨[], by simp [rowB]⟩
  | n + 1, j, ps, row => by
    obtain ⟨t, ht⟩ := cell_pre a b p j ps
    obtain ⟨t', ht'⟩ := row_pre a b p n (j + 1) (cellB a b p j ps).1 (row ++ [(cellB a b p j ps).2])
    exact ⟨t ++ t', by rw [rowB, ht', ht, List.append_assoc]⟩
theorem row_len (a b : AutoT) (p : Int × Int) : ∀ (n j : Nat) (ps : PairsT) (row : List Int), (rowB a b p n j ps row).2.length = row.length + n
  | 0, j, ps, row => rfl
  | n + 1, j, ps, row => by rw [rowB, row_len]; simp; omega
theorem getD_pre {α : Type} (l t : List α) (i : Nat) (d : α) (h : i < l.length) : (l ++ t).getD i d = l.getD i d := by
  rw [List.getD_eq_getElem?_getD, List.getElem?_append_left h, ← List.getD_eq_getElem?_getD]
/-! what a product takes in -/
def walkA (a : AutoT) : Int → List UInt8 → Bool
  | p, [] => endR a p
  | p, c :: s => if goR a p (c.toNat - 97) < 0 then false else walkA a (goR a p (c.toNat - 97)) s
def isA (a : AutoT) (s : List UInt8) : Bool := autoOk a && (textOk s && walkA a a.1 s)
/-- A row that tells where two go. -/
def RowG (a b : AutoT) (ps : PairsT) (p : Int × Int) (row : List Int) (n : Nat) : Prop :=
  ∀ k, k < n → if 0 ≤ goR a p.1 k ∧ 0 ≤ goR b p.2 k then (∃ j : Nat, j < ps.length ∧ row.getD k 0 = j ∧ ps.getD j (0, 0) = (goR a p.1 k, goR b p.2 k)) else row.getD k 0 = -1
theorem RowG.more {a b : AutoT} {ps : PairsT} {p : Int × Int} {row : List Int} {n : Nat} (h : RowG a b ps p row n) (t : PairsT) : RowG a b (ps ++ t) p row n := fun k hk => by
  have := h k hk
  split
  · rename_i hc
    rw [if_pos hc] at this
    obtain ⟨j, h1, h2, h3⟩ := this
    exact ⟨j, by simp; omega, h2, by rw [getD_pre _ _ _ _ h1]; exact h3⟩
  · rename_i hc
    rw [if_neg hc] at this; exact this
theorem rowB_ok (a b : AutoT) (p : Int × Int) : ∀ (n j : Nat) {ps : PairsT} {row : List Int}, row.length = j → RowG a b ps p row j → RowG a b (rowB a b p n j ps row).1 p (rowB a b p n j ps row).2 (j + n)
  | 0, j, ps, row, hr, h => h
  | n + 1, j, ps, row, hr, h => by
    rw [rowB]
    obtain ⟨t, ht⟩ := cell_pre a b p j ps
    have e : j + (n + 1) = j + 1 + n := by omega
    rw [e]
    refine rowB_ok a b p n (j + 1) (by simp [hr]) (fun k hk => ?_)
    by_cases hkj : k < j
    · have := (h.more t) k hkj
      rw [ht, getD_pre _ _ _ _ (by omega)]
      exact this
    · obtain rfl : k = j := by omega
      have e2 : (row ++ [(cellB a b p k ps).2]).getD k 0 = (cellB a b p k ps).2 := by
        rw [List.getD_eq_getElem?_getD, List.getElem?_append_right (by omega)]; simp [hr]
      rw [e2]
      by_cases hc : 0 ≤ goR a p.1 k ∧ 0 ≤ goR b p.2 k
      · rw [if_pos hc]
        by_cases hf : fi ps (goR a p.1 k, goR b p.2 k) < 0
        · have e3 : cellB a b p k ps = (ps ++ [(goR a p.1 k, goR b p.2 k)], (ps.length : Int)) := by unfold cellB; rw [if_pos hc, if_pos hf]
          rw [e3]
          exact ⟨ps.length, by simp, rfl, by rw [List.getD_eq_getElem?_getD, List.getElem?_append_right (Nat.le_refl _)]; simp⟩
        · have e3 : cellB a b p k ps = (ps, fi ps (goR a p.1 k, goR b p.2 k)) := by unfold cellB; rw [if_pos hc, if_neg hf]
          rw [e3]
          rcases fi_range (goR a p.1 k, goR b p.2 k) ps with ⟨h3, _⟩ | ⟨h3, h4, h5⟩
          · omega
          · exact ⟨(fi ps (goR a p.1 k, goR b p.2 k)).toNat, by show _ < ps.length; omega, by show fi ps _ = _; omega, h5⟩
      · rw [if_neg hc]
        have e3 : cellB a b p k ps = (ps, -1) := by unfold cellB; rw [if_neg hc]
        rw [e3]
structure GoodB (a b : AutoT) (ps : PairsT) (es : List Bool) (gs : List (List Int)) (i : Nat) : Prop where
  e : es.length = i
  g : gs.length = i
  ends : ∀ t, t < i → es.getD t false = (endR a (ps.getD t (0, 0)).1 && endR b (ps.getD t (0, 0)).2)
  rows : ∀ t, t < i → RowG a b ps (ps.getD t (0, 0)) (gs.getD t []) 4
theorem bothB_ok (a b : AutoT) : ∀ (n i : Nat) {ps : PairsT} {es : List Bool} {gs : List (List Int)}, i ≤ ps.length → GoodB a b ps es gs i →
    ∃ i', i' ≤ (bothB a b n i ps es gs).1.length ∧ GoodB a b (bothB a b n i ps es gs).1 (bothB a b n i ps es gs).2.1 (bothB a b n i ps es gs).2.2 i' ∧ (37 ≤ n + i → (bothB a b n i ps es gs).1.length ≤ 36 → i' = (bothB a b n i ps es gs).1.length) ∧ ∃ t, (bothB a b n i ps es gs).1 = ps ++ t
  | 0, i, ps, es, gs, hi, h => ⟨i, hi, h, fun h1 h2 => by have : ps.length ≤ 36 := h2; omega, [], by simp [bothB]⟩
  | n + 1, i, ps, es, gs, hi, h => by
    unfold bothB
    split
    · rename_i hlt
      obtain ⟨t, ht⟩ := row_pre a b (ps.getD i (0, 0)) 4 0 ps []
      have hrow := rowB_ok a b (ps.getD i (0, 0)) 4 0 (ps := ps) (row := []) rfl (fun k hk => absurd hk (Nat.not_lt_zero _))
      have hG : GoodB a b (rowB a b (ps.getD i (0, 0)) 4 0 ps []).1 (es ++ [endR a (ps.getD i (0, 0)).1 && endR b (ps.getD i (0, 0)).2]) (gs ++ [(rowB a b (ps.getD i (0, 0)) 4 0 ps []).2]) (i + 1) := by
        have he := h.e
        have hg := h.g
        refine ⟨by simp [he], by simp [hg], fun u hu => ?_, fun u hu => ?_⟩
        · rw [ht]
          by_cases hui : u < i
          · rw [getD_pre _ _ _ _ (by omega), getD_pre _ _ _ _ (by omega)]; exact h.ends u hui
          · obtain rfl : u = i := by omega
            rw [getD_pre ps t u _ hlt]
            rw [List.getD_eq_getElem?_getD, List.getElem?_append_right (by omega)]; simp [he]
        · by_cases hui : u < i
          · rw [ht, getD_pre _ _ _ _ (by omega), getD_pre _ _ _ _ (by omega)]; exact (h.rows u hui).more t
          · obtain rfl : u = i := by omega
            have e1 : (rowB a b (ps.getD u (0, 0)) 4 0 ps []).1.getD u (0, 0) = ps.getD u (0, 0) := by rw [ht]; exact getD_pre _ _ _ _ hlt
            have e2 : (gs ++ [(rowB a b (ps.getD u (0, 0)) 4 0 ps []).2]).getD u [] = (rowB a b (ps.getD u (0, 0)) 4 0 ps []).2 := by
              rw [List.getD_eq_getElem?_getD, List.getElem?_append_right (by omega)]; simp [hg]
            rw [e1, e2]; exact hrow
      obtain ⟨i', g1, g2, g3, t', g4⟩ := bothB_ok a b n (i + 1) (by rw [ht]; simp; omega) hG
      exact ⟨i', g1, g2, fun h1 h2 => g3 (by omega) h2, t ++ t', by rw [g4, ht, List.append_assoc]⟩
    · rename_i hge
      exact ⟨i, hi, h, fun _ _ => by show i = ps.length; omega, [], by simp⟩
theorem psok_bothB {a b : AutoT} (ha : OkA a) (hb : OkA b) : ∀ (n i : Nat) {ps : PairsT} {es : List Bool} {gs : List (List Int)}, PsOk a b ps → PsOk a b (bothB a b n i ps es gs).1
  | 0, i, ps, es, gs, h => h
  | n + 1, i, ps, es, gs, h => by
    unfold bothB
    split
    · rename_i hlt
      exact psok_bothB ha hb n (i + 1) (row_ok ha hb (h.2 _ (getD_mem ps i (0, 0) hlt)) 4 0 (by omega) h)
    · exact h
theorem both_walk {a b : AutoT} {ps : PairsT} {es : List Bool} {gs : List (List Int)} (H : GoodB a b ps es gs ps.length) (x : Int) : ∀ (s : List UInt8) (i : Nat), s.all small = true → i < ps.length →
    walkA (x, es, gs) (i : Int) s = (walkA a (ps.getD i (0, 0)).1 s && walkA b (ps.getD i (0, 0)).2 s)
  | [], i, _, hi => by
    have := H.ends i hi
    simp only [walkA]
    rw [← this]; simp [endR]
  | c :: s, i, hs, hi => by
    simp only [List.all_cons, Bool.and_eq_true] at hs
    have hk : c.toNat - 97 < 4 := by
      have := hs.1
      simp only [small, Bool.and_eq_true, decide_eq_true_eq] at this
      omega
    have hrow := H.rows i hi (c.toNat - 97) hk
    simp only [walkA]
    have e : goR (x, es, gs) (i : Int) (c.toNat - 97) = (gs.getD i []).getD (c.toNat - 97) 0 := by simp [goR]
    rw [e]
    by_cases hc : 0 ≤ goR a (ps.getD i (0, 0)).1 (c.toNat - 97) ∧ 0 ≤ goR b (ps.getD i (0, 0)).2 (c.toNat - 97)
    · rw [if_pos hc] at hrow
      obtain ⟨j, h1, h2, h3⟩ := hrow
      rw [h2, if_neg (by omega), if_neg (by omega), if_neg (by omega), both_walk H x s j hs.2 h1, h3]
    · rw [if_neg hc] at hrow
      rw [hrow, if_pos (by omega)]
      by_cases h0 : goR a (ps.getD i (0, 0)).1 (c.toNat - 97) < 0
      · rw [if_pos h0]; rfl
      · rw [if_neg h0, if_pos (by omega)]; simp
theorem both_is {a b : AutoT} (h : (both a b).2 = true) (s : List UInt8) : autoOk a = true ∧ autoOk b = true ∧ autoOk (both a b).1 = true ∧ isA (both a b).1 s = (isA a s && isA b s) := by
  unfold both at h ⊢
  split at h
  case isFalse => cases h
  rename_i hab
  simp only [Bool.and_eq_true] at hab
  unfold wrapB at h
  split at h
  case isFalse => cases h
  rename_i hok
  rw [if_pos (by simp [hab])]
  unfold wrapB
  rw [if_pos hok]
  refine ⟨hab.1, hab.2, hok, ?_⟩
  have ha := okA hab.1
  have hb := okA hab.2
  obtain ⟨i', g1, g2, g3, t, g4⟩ := bothB_ok a b 37 0 (ps := [(a.1, b.1)]) (es := []) (gs := []) (by simp) ⟨rfl, rfl, fun t ht => absurd ht (Nat.not_lt_zero _), fun t ht => absurd ht (Nat.not_lt_zero _)⟩
  have hlen := (psok_bothB ha hb 37 0 (es := []) (gs := []) (start_ok ha hb)).len ha hb
  have e := g3 (by omega) hlen
  rw [e] at g2
  have hpos : 0 < (bothB a b 37 0 [(a.1, b.1)] [] []).1.length := by rw [g4]; simp
  have h0 : (bothB a b 37 0 [(a.1, b.1)] [] []).1.getD 0 (0, 0) = (a.1, b.1) := by rw [g4]; rfl
  unfold isA
  rw [hab.1, hab.2, hok]
  cases ht : textOk s with
  | false => simp
  | true =>
    simp only [textOk, Bool.and_eq_true] at ht
    have := both_walk g2 0 s 0 ht.1 hpos
    rw [h0] at this
    simp only [Bool.true_and]
    exact this
/-- The other way round. -/
def swP (p : Int × Int) : Int × Int := (p.2, p.1)
theorem fi_swap (y : Int × Int) : ∀ l : PairsT, fi (l.map swP) (swP y) = fi l y
  | [] => rfl
  | x :: l => by
    have e : (swP x = swP y) ↔ x = y := ⟨fun h => by simp only [swP, Prod.mk.injEq] at h; exact Prod.ext h.2 h.1, fun h => by rw [h]⟩
    simp only [List.map_cons, fi, e, fi_swap y l]
theorem cell_swap (a b : AutoT) (p : Int × Int) (k : Nat) (ps : PairsT) : cellB b a (swP p) k (ps.map swP) = ((cellB a b p k ps).1.map swP, (cellB a b p k ps).2) := by
  have e : fi (ps.map swP) (goR b p.2 k, goR a p.1 k) = fi ps (goR a p.1 k, goR b p.2 k) := fi_swap (goR a p.1 k, goR b p.2 k) ps
  have l : cellB b a (swP p) k (ps.map swP) = (if 0 ≤ goR b p.2 k ∧ 0 ≤ goR a p.1 k then (if fi (ps.map swP) (goR b p.2 k, goR a p.1 k) < 0 then (ps.map swP ++ [(goR b p.2 k, goR a p.1 k)], ((ps.map swP).length : Int)) else (ps.map swP, fi (ps.map swP) (goR b p.2 k, goR a p.1 k))) else (ps.map swP, -1)) := rfl
  rw [l]
  by_cases h : 0 ≤ goR a p.1 k ∧ 0 ≤ goR b p.2 k
  · rw [if_pos ⟨h.2, h.1⟩]
    by_cases h2 : fi ps (goR a p.1 k, goR b p.2 k) < 0
    · have r : cellB a b p k ps = (ps ++ [(goR a p.1 k, goR b p.2 k)], (ps.length : Int)) := by unfold cellB; rw [if_pos h, if_pos h2]
      rw [if_pos (by rw [e]; exact h2), r]; simp [swP]
    · have r : cellB a b p k ps = (ps, fi ps (goR a p.1 k, goR b p.2 k)) := by unfold cellB; rw [if_pos h, if_neg h2]
      rw [if_neg (by rw [e]; exact h2), r, e]
  · have r : cellB a b p k ps = (ps, -1) := by unfold cellB; rw [if_neg h]
    rw [if_neg (fun h' => h ⟨h'.2, h'.1⟩), r]
theorem row_swap (a b : AutoT) (p : Int × Int) : ∀ (n j : Nat) (ps : PairsT) (row : List Int), rowB b a (swP p) n j (ps.map swP) row = ((rowB a b p n j ps row).1.map swP, (rowB a b p n j ps row).2)
  | 0, j, ps, row => rfl
  | n + 1, j, ps, row => by rw [rowB, rowB, cell_swap]; exact row_swap a b p n (j + 1) _ _
theorem bothB_swap (a b : AutoT) : ∀ (n i : Nat) (ps : PairsT) (es : List Bool) (gs : List (List Int)), (bothB b a n i (ps.map swP) es gs).2 = (bothB a b n i ps es gs).2
  | 0, i, ps, es, gs => rfl
  | n + 1, i, ps, es, gs => by
    unfold bothB
    simp only [List.length_map]
    split
    · rename_i h
      have e : (ps.map swP).getD i (0, 0) = swP (ps.getD i (0, 0)) := by
        rw [List.getD_eq_getElem?_getD, List.getD_eq_getElem?_getD, List.getElem?_map, List.getElem?_eq_getElem h]; rfl
      rw [e, row_swap]
      have e2 : (endR b (swP (ps.getD i (0, 0))).1 && endR a (swP (ps.getD i (0, 0))).2) = (endR a (ps.getD i (0, 0)).1 && endR b (ps.getD i (0, 0)).2) := Bool.and_comm _ _
      rw [e2]
      exact bothB_swap a b n (i + 1) _ _ _
    · rfl
theorem both_swap (a b : AutoT) : both b a = both a b := by
  unfold both
  have e := bothB_swap a b 37 0 [(a.1, b.1)] [] []
  have e2 : [(a.1, b.1)].map swP = [(b.1, a.1)] := rfl
  rw [e2] at e
  rw [e, Bool.and_comm]
/-! the same -/
theorem drop_eq_iff {α : Type} (l m : List α) (i : Nat) (d : α) (hl : i < l.length) (hm : i < m.length) : (l.drop i = m.drop i) ↔ (l.getD i d = m.getD i d ∧ l.drop (i + 1) = m.drop (i + 1)) := by
  rw [drop_cons l i d hl, drop_cons m i d hm]
  exact ⟨fun h => by simpa only [List.cons.injEq] using h, fun h => by rw [h.1, h.2]⟩
/-! strings.Trim -/
theorem dropWhile_all {α : Type} (p : α → Bool) : ∀ l : List α, l.dropWhile p = [] ↔ l.all p = true
  | [] => by simp
  | x :: l => by
    rw [List.dropWhile_cons]
    cases h : p x with
    | true => simp only [if_true, List.all_cons, h, Bool.true_and]; exact dropWhile_all p l
    | false => simp [h]
theorem trim_nil (s c : List UInt8) : (trimE s c = []) ↔ s.all c.contains = true := by
  unfold trimE
  rw [List.reverse_eq_nil_iff, dropWhile_all, List.all_reverse, ← dropWhile_all]
  constructor
  · intro h
    have h1 := (dropWhile_all _ _).1 h
    cases hd : s.dropWhile c.contains with
    | nil => exact (dropWhile_all _ _).1 hd
    | cons x l =>
      exfalso
      have h2 : (x :: l).dropWhile c.contains = [] := hd ▸ h
      have h3 : c.contains x = false := by
        have := List.head?_dropWhile_not c.contains s
        rw [hd] at this; simpa using this
      rw [List.dropWhile_cons, h3] at h2
      simp at h2
  · intro h
    rw [(dropWhile_all _ _).2 h]; rfl
/-! a walk by a text -/
def abcd : List UInt8 := [97, 98, 99, 100]
theorem small_abcd (c : UInt8) : small c = abcd.contains c := by
  by_cases h1 : c = 97
  · subst h1; rfl
  by_cases h2 : c = 98
  · subst h2; rfl
  by_cases h3 : c = 99
  · subst h3; rfl
  by_cases h4 : c = 100
  · subst h4; rfl
  have e : abcd.contains c = false := by
    simp [abcd, h1, h2, h3, h4]
  rw [e]
  have k : ∀ n : UInt8, c ≠ n → c.toNat ≠ n.toNat := fun n h e => h (UInt8.toNat_inj.1 e)
  have a1 := k 97 h1
  have a2 := k 98 h2
  have a3 := k 99 h3
  have a4 := k 100 h4
  simp only [show (97 : UInt8).toNat = 97 from rfl, show (98 : UInt8).toNat = 98 from rfl, show (99 : UInt8).toNat = 99 from rfl, show (100 : UInt8).toNat = 100 from rfl] at a1 a2 a3 a4
  by_cases h5 : 97 ≤ c.toNat
  · have : ¬ c.toNat ≤ 100 := by omega
    simp [small, this]
  · simp [small, h5]
theorem trim_abcd (s : List UInt8) : (trimE s abcd = []) ↔ s.all small = true := by
  have e : (small : UInt8 → Bool) = abcd.contains := funext small_abcd
  rw [e]
  exact trim_nil s abcd
theorem implTextOk_ev (s : List UInt8) : EvP (fun k => impl_TextOk k s) (fun r => r = textOk s) := by
  refine EvP.fn (fun k => impl_TextOk_eq k s) (EvP.bind (P := fun r => r = textOk s) ?_ fun r hr => EvP.now hr)
  refine EvP.fn (fun k => impl_areSmalls_eq k _ _) (EvP.dec (fun h => ?_) (fun h => EvP.now ?_))
  · refine EvP.bind (P := fun r => r = trimE s abcd) (EvP.fn (fun k => strings_Trim_eq k _ _) (EvP.yes ⟨by omega, by decide, by decide⟩ (EvP.now rfl))) fun r hr => EvP.now ?_
    rw [hr]
    have h8 : s.length ≤ 8 := by omega
    show decide (trimE s abcd = []) = textOk s
    simp only [textOk, h8, decide_true, Bool.and_true]
    have := trim_abcd s
    cases hc : s.all small with
    | true => exact decide_eq_true (this.2 hc)
    | false => exact decide_eq_false (fun h => by rw [this.1 h] at hc; cases hc)
  · have h8 : ¬ s.length ≤ 8 := by omega
    simp [textOk, h8]
/-! a drawn text, no grammar at hand -/
/-! the walk of a text -/
def rowO (s : List UInt8) (i : Nat) : List Int := if i < s.length then (List.replicate 4 (-1)).set ((s.getD i 0).toNat - 97) ((i + 1 : Nat) : Int) else List.replicate 4 (-1)
def endsO (s : List UInt8) (i : Nat) : List Bool := (List.range i).map fun j => decide (j = s.length)
def goesO (s : List UInt8) (i : Nat) : List (List Int) := (List.range i).map (rowO s)
def outO (s : List UInt8) : AutoT := (0, endsO s (s.length + 1), goesO s (s.length + 1))
def ofA (s : List UInt8) : AutoT × Bool := if textOk s = true ∧ s.length < 6 then (outO s, true) else ((0, [], []), false)
theorem range_map {α : Type} (f : Nat → α) (i : Nat) : (List.range (i + 1)).map f = (List.range i).map f ++ [f i] := by rw [List.range_succ, List.map_append]; rfl
theorem range_getD {α : Type} (f : Nat → α) (n i : Nat) (d : α) (h : i < n) : ((List.range n).map f).getD i d = f i := by
  rw [List.getD_eq_getElem?_getD, List.getElem?_map, List.getElem?_range h]; rfl
theorem endsO_imp (s : List UInt8) : (List.replicate (s.length + 1) false).set s.length true = endsO s (s.length + 1) := by
  unfold endsO
  apply List.ext_getElem
  · simp
  · intro i h1 h2
    rw [List.getElem_set, List.getElem_replicate, List.getElem_map, List.getElem_range]
    by_cases h : s.length = i
    · rw [if_pos h, decide_eq_true h.symm]
    · rw [if_neg h, decide_eq_false (fun e => h e.symm)]
theorem repeatO_ev (v : Int) (n : Nat) (h1 : 1 ≤ n) (h2 : n ≤ 100000) : EvP (fun k => slices_Repeat_Sint_int k [v] (n : Int)) (fun r => r = List.replicate n v) :=
  EvP.fn (fun k => slices_Repeat_Sint_int_eq k _ _) (EvP.yes ⟨rfl, by omega, by omega⟩ (EvP.now (by rw [Int.toNat_natCast]; rfl)))
theorem implOf_ev (s : List UInt8) : EvP (fun k => impl_AutoOf k s) (fun r => r = ofA s) := by
  refine EvP.fn (fun k => impl_AutoOf_eq k _) (EvP.bind (implTextOk_ev s) fun b hb => ?_)
  subst hb
  cases ht : textOk s with
  | false => exact EvP.no (by simp) (EvP.now (by unfold ofA; rw [if_neg (by simp [ht])]))
  | true =>
    refine EvP.yes rfl (EvP.dec (fun h => EvP.now (by unfold ofA; rw [if_neg (by omega)])) (fun h => ?_))
    have h6 : s.length < 6 := by omega
    have ho : ofA s = (outO s, true) := by unfold ofA; rw [if_pos ⟨ht, h6⟩]
    have hsm : s.all small = true := by
      simp only [textOk, Bool.and_eq_true] at ht; exact ht.1
    have e1 : IntKind.i64.wrap ((s.length : Int) + 1) = ((s.length + 1 : Nat) : Int) := w64 (by omega) (by omega)
    rw [ho, e1]
    have loop : ∀ (q i : Nat), i + q = s.length → EvP (fun k => impl_AutoOf_L122 k s ((0 : Int), [], []) ((0 : Int), List.replicate (s.length + 1) false, goesO s i) ((s.length + 1 : Nat) : Int) (i : Int)) (fun r => r = (outO s, true)) := by
      intro q
      induction q with
      | zero =>
        intro i hi
        obtain rfl : i = s.length := by omega
        refine EvP.fn (fun k => impl_AutoOf_L122_eq k _ _ _ _ _) (EvP.decY (by omega) (EvP.bind (repeatO_ev _ 4 (by omega) (by omega)) fun x hx => EvP.decN (by omega) (EvP.yes (by omega) (EvP.yes (by show _ < (((List.replicate (s.length + 1) false).length : Nat) : Int); rw [List.length_replicate]; omega) ?_))))
        subst hx
        rw [Int.toNat_natCast]
        dsimp only
        rw [endsO_imp]
        refine EvP.fn (fun k => impl_AutoOf_L31335_eq k _ _ _ _ _ _) (EvP.yes (mE (by unfold goesO; rw [List.length_map, List.length_range]; show _ + 1 ≤ _; omega)) ?_)
        rw [e1]
        refine EvP.fn (fun k => impl_AutoOf_L122_eq k _ _ _ _ _) (EvP.decN (by omega) (EvP.now ?_))
        have : goesO s (s.length + 1) = goesO s s.length ++ [List.replicate 4 (-1)] := by
          unfold goesO
          rw [range_map]
          congr 2
          unfold rowO
          rw [if_neg (Nat.lt_irrefl _)]
        unfold outO
        rw [this]
      | succ q ih =>
        intro i hi
        have hc := List.all_eq_true.1 hsm _ (getD_mem s i 0 (by omega))
        simp only [small, Bool.and_eq_true, decide_eq_true_eq] at hc
        have e2 : IntKind.u8.wrap (((s.getD i 0).toNat : Int) - 97) = (((s.getD i 0).toNat - 97 : Nat) : Int) := by rw [w8 (by omega) (by omega)]; omega
        refine EvP.fn (fun k => impl_AutoOf_L122_eq k _ _ _ _ _) (EvP.decY (by omega) (EvP.bind (repeatO_ev _ 4 (by omega) (by omega)) fun x hx => EvP.decY (by omega) (EvP.yes (by omega) (EvP.yes (by omega) ?_))))
        subst hx
        rw [Int.toNat_natCast, e2, Int.toNat_natCast, w64 (by omega) (by omega)]
        refine EvP.yes (by omega) (EvP.yes (by rw [List.length_replicate]; omega) ?_)
        refine EvP.fn (fun k => impl_AutoOf_L31335_eq k _ _ _ _ _ _) (EvP.yes (mE (by show (goesO s i).length + 1 ≤ _; unfold goesO; rw [List.length_map, List.length_range]; omega)) ?_)
        rw [w64 (by omega) (by omega)]
        have h' := ih (i + 1) (by omega)
        have : goesO s (i + 1) = goesO s i ++ [(List.replicate 4 (-1)).set ((s.getD i 0).toNat - 97) ((i : Int) + 1)] := by
          unfold goesO
          rw [range_map]
          congr 2
          unfold rowO
          rw [if_pos (by omega)]; rfl
        rw [this] at h'
        exact h'
    refine EvP.yes rfl (EvP.yes (by omega) (EvP.yes (by unfold maxLenE; omega) ?_))
    rw [Int.toNat_natCast]
    exact loop s.length 0 (Nat.zero_add _)
theorem specOf_ev (s : List UInt8) (hl : s.length ≤ 2000000) : EvP (fun k => spec_AutoOf k s) (fun r => r = ofA s) := by
  refine EvP.fn (fun k => spec_AutoOf_eq k _) (EvP.bind (specTextOk_ev s (by omega)) fun b hb => ?_)
  subst hb
  cases ht : textOk s with
  | false => exact EvP.no (by simp) (EvP.now (by unfold ofA; rw [if_neg (by simp [ht])]))
  | true =>
    refine EvP.yes rfl (EvP.dec (fun h => EvP.now (by unfold ofA; rw [if_neg (by omega)])) (fun h => ?_))
    have h6 : s.length < 6 := by omega
    have ho : ofA s = (outO s, true) := by unfold ofA; rw [if_pos ⟨ht, h6⟩]
    have hsm : s.all small = true := by
      simp only [textOk, Bool.and_eq_true] at ht; exact ht.1
    rw [ho]
    have loop : ∀ (q i : Nat), i + q = s.length + 1 → EvP (fun k => spec_AutoOf_L122 k s ((0 : Int), [], []) ((0 : Int), endsO s i, goesO s i) (i : Int)) (fun r => r = (outO s, true)) := by
      intro q
      induction q with
      | zero =>
        intro i hi
        obtain rfl : i = s.length + 1 := by omega
        exact EvP.fn (fun k => spec_AutoOf_L122_eq k _ _ _ _) (EvP.decN (by omega) (EvP.now rfl))
      | succ q ih =>
        intro i hi
        have fin : EvP (fun k => spec_AutoOf_L7827 k s ((0 : Int), [], []) ((0 : Int), endsO s i, goesO s i) (i : Int) (rowO s i)) (fun r => r = (outO s, true)) := by
          refine EvP.fn (fun k => spec_AutoOf_L7827_eq k _ _ _ _ _) (EvP.yes (mE (by show (endsO s i).length + 1 ≤ _; unfold endsO; rw [List.length_map, List.length_range]; omega)) (EvP.yes (mE (by show (goesO s i).length + 1 ≤ _; unfold goesO; rw [List.length_map, List.length_range]; omega)) ?_))
          rw [w64 (by omega) (by omega)]
          have h' := ih (i + 1) (by omega)
          have a1 : endsO s (i + 1) = endsO s i ++ [decide ((i : Int) = (s.length : Int))] := by
            unfold endsO
            rw [range_map]
            congr 2
            rw [decide_eq_decide]; omega
          have a2 : goesO s (i + 1) = goesO s i ++ [rowO s i] := by unfold goesO; rw [range_map]
          rw [a1, a2] at h'
          exact h'
        refine EvP.fn (fun k => spec_AutoOf_L122_eq k _ _ _ _) (EvP.decY (by omega) (EvP.dec (fun hlt => ?_) (fun hge => ?_)))
        · have hc := List.all_eq_true.1 hsm _ (getD_mem s i 0 (by omega))
          simp only [small, Bool.and_eq_true, decide_eq_true_eq] at hc
          have e2 : IntKind.i64.wrap (IntKind.u8.wrap (((s.getD i 0).toNat : Int) - 97)) = (((s.getD i 0).toNat - 97 : Nat) : Int) := by rw [w8 (by omega) (by omega), w64 (by omega) (by omega)]; omega
          refine EvP.yes (by omega) (EvP.yes (by omega) ?_)
          rw [Int.toNat_natCast, e2, Int.toNat_natCast, w64 (by omega) (by omega)]
          refine EvP.yes (by omega) (EvP.yes (by show _ < (4 : Int); omega) ?_)
          have : rowO s i = [(-1 : Int), -1, -1, -1].set ((s.getD i 0).toNat - 97) ((i : Int) + 1) := by
            unfold rowO
            rw [if_pos (by omega)]; rfl
          rw [this] at fin
          exact fin
        · have : rowO s i = [(-1 : Int), -1, -1, -1] := by
            unfold rowO
            rw [if_neg (by omega)]; rfl
          rw [this] at fin
          exact fin
    exact loop (s.length + 1) 0 (Nat.zero_add _)
theorem rowO_len (s : List UInt8) (i : Nat) : (rowO s i).length = 4 := by unfold rowO; split <;> simp
theorem outO_ok {s : List UInt8} (h6 : s.length < 6) : autoOk (outO s) = true := by
  have e1 : (outO s).2.1.length = s.length + 1 := by show (endsO s _).length = _; unfold endsO; rw [List.length_map, List.length_range]
  have e2 : (outO s).2.2.length = s.length + 1 := by show (goesO s _).length = _; unfold goesO; rw [List.length_map, List.length_range]
  simp only [autoOk, Bool.and_eq_true, decide_eq_true_eq, List.all_eq_true]
  refine ⟨⟨⟨⟨⟨by omega, by omega⟩, by omega⟩, Int.le_refl _⟩, by show (0 : Int) < _; omega⟩, fun r hr => ?_⟩
  obtain ⟨i, hi, rfl⟩ := List.mem_map.1 hr
  have hi := List.mem_range.1 hi
  simp only [rowOk, Bool.and_eq_true, decide_eq_true_eq, List.all_eq_true]
  refine ⟨rowO_len s i, fun x hx => ?_⟩
  simp only [goalB, Bool.and_eq_true, decide_eq_true_eq]
  rw [e1]
  unfold rowO at hx
  split at hx
  · rcases set_mem hx with rfl | hx
    · omega
    · rw [List.eq_of_mem_replicate hx]; omega
  · rw [List.eq_of_mem_replicate hx]; omega
theorem outO_walk {s : List UInt8} (hs : s.all small = true) : ∀ (w : List UInt8) (i : Nat), w.all small = true → i ≤ s.length → walkA (outO s) (i : Int) w = decide (w = s.drop i)
  | [], i, _, hi => by
    show endR (outO s) (i : Int) = _
    unfold endR
    rw [Int.toNat_natCast]
    show (endsO s (s.length + 1)).getD i false = _
    unfold endsO
    rw [range_getD _ _ _ _ (by omega)]
    congr 1
    refine propext ⟨fun h => ?_, fun h => ?_⟩
    · rw [h, List.drop_length]
    · have := congrArg List.length h
      simp at this; omega
  | c :: w, i, hw, hi => by
    rw [List.all_cons, Bool.and_eq_true] at hw
    have hc := hw.1
    simp only [small, Bool.and_eq_true, decide_eq_true_eq] at hc
    have eg : goR (outO s) (i : Int) (c.toNat - 97) = if i < s.length ∧ s.getD i 0 = c then ((i + 1 : Nat) : Int) else -1 := by
      unfold goR
      rw [Int.toNat_natCast]
      have e : (outO s).2.2.getD i [] = rowO s i := by
        show (goesO s (s.length + 1)).getD i [] = _
        unfold goesO
        exact range_getD _ _ _ _ (by omega)
      rw [e]
      unfold rowO
      have r4 : (List.replicate 4 (-1 : Int)).getD (c.toNat - 97) 0 = -1 := by
        rw [List.getD_eq_getElem?_getD, List.getElem?_replicate, if_pos (by omega)]; rfl
      by_cases hlt : i < s.length
      · have hd := List.all_eq_true.1 hs _ (getD_mem s i 0 hlt)
        simp only [small, Bool.and_eq_true, decide_eq_true_eq] at hd
        rw [if_pos hlt, List.getD_eq_getElem?_getD, List.getElem?_set]
        by_cases he : s.getD i 0 = c
        · rw [if_pos (by rw [he]), if_pos (by rw [List.length_replicate]; omega), if_pos ⟨hlt, he⟩]; rfl
        · rw [if_neg (fun h => he (UInt8.toNat_inj.1 (by omega))), if_neg (fun h => he h.2), ← List.getD_eq_getElem?_getD]; exact r4
      · rw [if_neg hlt, if_neg (fun h => hlt h.1)]; exact r4
    show (if goR (outO s) (i : Int) (c.toNat - 97) < 0 then false else walkA (outO s) (goR (outO s) (i : Int) (c.toNat - 97)) w) = _
    rw [eg]
    by_cases h : i < s.length ∧ s.getD i 0 = c
    · rw [if_pos h, if_neg (by omega), outO_walk hs w (i + 1) hw.2 (by omega), drop_cons s i 0 h.1, h.2]
      congr 1
      exact propext ⟨fun e => by rw [e], fun e => (List.cons.inj e).2⟩
    · rw [if_neg h, if_pos (by omega)]
      refine (decide_eq_false fun e => h ?_).symm
      have hlt : i < s.length := by
        rcases Nat.lt_or_ge i s.length with h' | h'
        · exact h'
        · rw [List.drop_eq_nil_of_le h'] at e; cases e
      rw [drop_cons s i 0 hlt] at e
      exact ⟨hlt, (List.cons.inj e).1.symm⟩
theorem ofA_ok {s : List UInt8} (h : (ofA s).2 = true) : textOk s = true ∧ s.length < 6 ∧ ofA s = (outO s, true) := by
  unfold ofA at h ⊢
  split at h
  · rename_i hc; rw [if_pos hc]; exact ⟨hc.1, hc.2, rfl⟩
  · cases h
theorem of_is {s : List UInt8} (h : (ofA s).2 = true) (w : List UInt8) : isA (outO s) w = (textOk w && decide (w = s)) := by
  obtain ⟨h1, h2, _⟩ := ofA_ok h
  unfold isA
  rw [outO_ok h2, Bool.true_and]
  cases ht : textOk w with
  | false => rfl
  | true =>
    simp only [textOk, Bool.and_eq_true] at ht h1
    have := outO_walk h1.1 w 0 ht.1 (Nat.zero_le _)
    rw [List.drop_zero] at this
    show (true && walkA (outO s) 0 w) = _
    rw [show (0 : Int) = ((0 : Nat) : Int) from rfl, this]
theorem ofA_mid {s : List UInt8} : Mid (ofA s).1 := by
  have z : Mid ((0 : Int), ([] : List Bool), ([] : List (List Int))) := ⟨by simp, by simp, fun r hr => by simp at hr⟩
  unfold ofA
  split
  · rename_i h; exact (okA (outO_ok h.2)).mid
  · exact z
/-! what the exact laws do with automata: they are told, copied, compared, marked -/
theorem lenG_mem : ∀ {gs : List (List Int)} {r : List Int}, r ∈ gs → r.length ≤ lenG gs
  | x :: l, r, h => by
    simp only [lenG]
    rcases List.mem_cons.1 h with rfl | h
    · omega
    · have := lenG_mem h; omega
theorem lenG_le {c : Nat} : ∀ {gs : List (List Int)}, (∀ r ∈ gs, r.length ≤ c) → lenG gs ≤ gs.length * c
  | [], _ => by simp [lenG]
  | x :: l, h => by
    have h1 := h x (by simp)
    have h2 := lenG_le (gs := l) (fun r hr => h r (by simp [hr]))
    simp only [lenG, List.length_cons]
    rw [Nat.add_mul]; omega
/-- Held within the bound of the exact laws. -/
def Held (a : AutoT) : Prop := a.2.1.length + a.2.2.length + lenG a.2.2 ≤ 1048576
theorem Held.mid {a : AutoT} (h : Held a) : Mid a := ⟨by unfold Held at h; omega, by unfold Held at h; omega, fun r hr => by have := lenG_mem hr; unfold Held at h; omega⟩
/-- The first cells are those of a list. -/
def LikeL {α : Type} (d : α) (l x : List α) (i : Nat) : Prop := x.length = l.length ∧ ∀ j, j < i → x.getD j d = l.getD j d
theorem LikeL.set {α : Type} {d : α} {l x : List α} {i : Nat} (h : LikeL d l x i) (hi : i < l.length) : LikeL d l (x.set i (l.getD i d)) (i + 1) := by
  refine ⟨by simp [h.1], fun j hj => ?_⟩
  by_cases e : j = i
  · subst e; simp [List.getD, h.1, hi]
  · have := h.2 j (by omega)
    simp only [List.getD, List.getElem?_set_ne (Ne.symm e)] at this ⊢
    exact this
theorem LikeL.all {α : Type} {d : α} {l x : List α} (h : LikeL d l x l.length) : x = l := by
  refine List.ext_getElem h.1 fun j h1 h2 => ?_
  have := h.2 j h2
  simpa [List.getD, h1, h2] using this
theorem LikeL.start {α : Type} (d : α) (l : List α) : LikeL d l (List.replicate l.length d) 0 := ⟨by simp, fun j hj => absurd hj (Nat.not_lt_zero _)⟩
/-! the same -/
theorem eqB_loop (l : List Bool) (hl : l.length ≤ 2000000) : ∀ (n i : Nat), i + n = l.length → EvP (fun k => laws_eqBoolS_L58 k l l (i : Int)) (fun r => r = true)
  | 0, i, h => EvP.fn (fun k => laws_eqBoolS_L58_eq k _ _ _) (EvP.decN (by omega) (EvP.now rfl))
  | n + 1, i, h => by
    refine EvP.fn (fun k => laws_eqBoolS_L58_eq k _ _ _) (EvP.decY (by omega) (EvP.yes (by omega) (EvP.yes (by omega) (EvP.yes (by omega) (EvP.yes (by omega) (EvP.no (by simp) ?_))))))
    rw [w64 (by omega) (by omega)]
    exact eqB_loop l hl n (i + 1) (by omega)
theorem eqI_loop (l : List Int) (hl : l.length ≤ 2000000) : ∀ (n i : Nat), i + n = l.length → EvP (fun k => laws_eqIntS_L58 k l l (i : Int)) (fun r => r = true)
  | 0, i, h => EvP.fn (fun k => laws_eqIntS_L58_eq k _ _ _) (EvP.decN (by omega) (EvP.now rfl))
  | n + 1, i, h => by
    refine EvP.fn (fun k => laws_eqIntS_L58_eq k _ _ _) (EvP.decY (by omega) (EvP.yes (by omega) (EvP.yes (by omega) (EvP.yes (by omega) (EvP.yes (by omega) (EvP.no (by simp) ?_))))))
    rw [w64 (by omega) (by omega)]
    exact eqI_loop l hl n (i + 1) (by omega)
theorem eqG_loop (l : List (List Int)) (hl : l.length ≤ 2000000) (hr : ∀ r ∈ l, r.length ≤ 2000000) : ∀ (n i : Nat), i + n = l.length → EvP (fun k => laws_eqIntSS_L58 k l l (i : Int)) (fun r => r = true)
  | 0, i, h => EvP.fn (fun k => laws_eqIntSS_L58_eq k _ _ _) (EvP.decN (by omega) (EvP.now rfl))
  | n + 1, i, h => by
    refine EvP.fn (fun k => laws_eqIntSS_L58_eq k _ _ _) (EvP.decY (by omega) (EvP.yes (by omega) (EvP.yes (by omega) (EvP.yes (by omega) (EvP.yes (by omega) ?_)))))
    rw [Int.toNat_natCast]
    refine EvP.bind (P := fun r => r = true) (EvP.fn (fun k => laws_eqIntS_eq k _ _) (EvP.no (by simp) (eqI_loop _ (hr _ (getD_mem l i [] (by omega))) _ 0 (Nat.zero_add _)))) fun b hb => EvP.no (by simp [hb]) ?_
    rw [w64 (by omega) (by omega)]
    exact eqG_loop l hl hr n (i + 1) (by omega)
theorem eqA_ev (a : AutoT) (h : Mid a) : EvP (fun k => laws_eqAuto k a.1 a.2.1 a.2.2 a.1 a.2.1 a.2.2) (fun r => r = true) := by
  refine EvP.fn (fun k => laws_eqAuto_eq k _ _ _ _ _ _) (EvP.no (by simp) ?_)
  refine EvP.bind (P := fun r => r = true) (EvP.fn (fun k => laws_eqBoolS_eq k _ _) (EvP.no (by simp) (eqB_loop a.2.1 h.1 _ 0 (Nat.zero_add _)))) fun b hb => EvP.no (by simp [hb]) ?_
  refine EvP.bind (P := fun r => r = true) (EvP.fn (fun k => laws_eqIntSS_eq k _ _) (EvP.no (by simp) (eqG_loop a.2.2 h.2.1 h.2.2 _ 0 (Nat.zero_add _)))) fun b hb => EvP.no (by simp [hb]) (EvP.now rfl)
/-! what is marked is held -/
theorem markB_len : ∀ (xs : List Bool) (k : Int), (markB k xs).length = xs.length
  | [], _ => rfl
  | _ :: l, k => by simp [markB, markB_len l]
theorem markI_len : ∀ (xs : List Int) (k : Int), (markI k xs).length = xs.length
  | [], _ => rfl
  | _ :: l, k => by simp [markI, markI_len l]
theorem markG_len : ∀ (gs : List (List Int)) (k : Int), (markG k gs).length = gs.length
  | [], _ => rfl
  | _ :: l, k => by simp [markG, markG_len l]
theorem markB_get : ∀ (xs : List Bool) (k : Int) (i : Nat), i < xs.length → (markB k xs).getD i false = decide ((k + i).tmod 3 = 0)
  | [], _, i, h => absurd h (Nat.not_lt_zero _)
  | _ :: l, k, 0, h => by simp [markB]
  | _ :: l, k, i + 1, h => by
    have := markB_get l (k + 1) i (by simpa using h)
    simp only [markB, List.getD_cons_succ, this]
    have e : k + 1 + (i : Int) = k + ((i + 1 : Nat) : Int) := by omega
    rw [e]
theorem markI_get : ∀ (xs : List Int) (k : Int) (i : Nat), i < xs.length → (markI k xs).getD i 0 = k + i
  | [], _, i, h => absurd h (Nat.not_lt_zero _)
  | _ :: l, k, 0, h => by simp [markI]
  | _ :: l, k, i + 1, h => by
    have := markI_get l (k + 1) i (by simpa using h)
    simp only [markI, List.getD_cons_succ, this]
    omega
theorem markG_get : ∀ (gs : List (List Int)) (k : Int) (i : Nat), i < gs.length → (markG k gs).getD i [] = markI (k + (lenG (gs.take i) : Nat)) (gs.getD i [])
  | [], _, i, h => absurd h (Nat.not_lt_zero _)
  | x :: l, k, 0, h => by simp [markG, lenG]
  | x :: l, k, i + 1, h => by
    have := markG_get l (k + (x.length : Nat)) i (by simpa using h)
    simp only [markG, List.getD_cons_succ, List.take_succ_cons, lenG, this]
    have e : k + (x.length : Int) + ((lenG (l.take i) : Nat) : Int) = k + ((x.length + lenG (l.take i) : Nat) : Int) := by omega
    rw [e]
theorem lenG_take : ∀ (gs : List (List Int)) (j : Nat), j < gs.length → lenG (gs.take (j + 1)) = lenG (gs.take j) + (gs.getD j []).length
  | [], _, h => absurd h (Nat.not_lt_zero _)
  | x :: l, 0, h => by simp [lenG]
  | x :: l, j + 1, h => by
    simp only [List.take_succ_cons, lenG, List.getD_cons_succ]
    rw [lenG_take l j (by simpa using h)]; omega
theorem lenG_take_le : ∀ (gs : List (List Int)) (j : Nat), lenG (gs.take j) ≤ lenG gs
  | [], _ => by simp [lenG]
  | x :: l, 0 => by simp [lenG]
  | x :: l, j + 1 => by simp only [List.take_succ_cons, lenG]; have := lenG_take_le l j; omega
theorem heldB_loop (l : List Bool) (c : Int) (h0 : 0 ≤ c) (h1 : c + l.length ≤ 1099511627776) : ∀ (n i : Nat), i + n = l.length → EvP (fun k => laws_heldBoolS_L26 k (markB c l) (c + i) (i : Int)) (fun r => r = c + l.length)
  | 0, i, h => by
    obtain rfl : i = l.length := by omega
    exact EvP.fn (fun k => laws_heldBoolS_L26_eq k _ _ _) (EvP.decN (by rw [markB_len]; omega) (EvP.now rfl))
  | n + 1, i, h => by
    refine EvP.fn (fun k => laws_heldBoolS_L26_eq k _ _ _) (EvP.decY (by rw [markB_len]; omega) (EvP.yes (by omega) (EvP.yes (by rw [markB_len]; omega) (EvP.no ?_ ?_))))
    · rw [Int.toNat_natCast, markB_get l c i (by omega)]; simp
    · rw [w64 (by omega) (by omega), w64 (by omega) (by omega)]
      have e : c + (i : Int) + 1 = c + ((i + 1 : Nat) : Int) := by omega
      rw [e]
      exact heldB_loop l c h0 h1 n (i + 1) (by omega)
theorem heldI_loop (l : List Int) (c : Int) (h0 : 0 ≤ c) (h1 : c + l.length ≤ 1099511627776) : ∀ (n i : Nat), i + n = l.length → EvP (fun k => laws_heldIntS_L26 k (markI c l) (c + i) (i : Int)) (fun r => r = c + l.length)
  | 0, i, h => by
    obtain rfl : i = l.length := by omega
    exact EvP.fn (fun k => laws_heldIntS_L26_eq k _ _ _) (EvP.decN (by rw [markI_len]; omega) (EvP.now rfl))
  | n + 1, i, h => by
    refine EvP.fn (fun k => laws_heldIntS_L26_eq k _ _ _) (EvP.decY (by rw [markI_len]; omega) (EvP.yes (by omega) (EvP.yes (by rw [markI_len]; omega) (EvP.no ?_ ?_))))
    · rw [Int.toNat_natCast, markI_get l c i (by omega)]; simp
    · rw [w64 (by omega) (by omega), w64 (by omega) (by omega)]
      have e : c + (i : Int) + 1 = c + ((i + 1 : Nat) : Int) := by omega
      rw [e]
      exact heldI_loop l c h0 h1 n (i + 1) (by omega)
theorem heldI_ev (l : List Int) (c : Int) (h0 : 0 ≤ c) (h1 : c + l.length ≤ 1099511627776) : EvP (fun k => laws_heldIntS k (markI c l) c) (fun r => r = c + l.length) := by
  refine EvP.fn (fun k => laws_heldIntS_eq k _ _) ?_
  have := heldI_loop l c h0 h1 l.length 0 (by omega)
  simpa using this
theorem heldG_loop (gs : List (List Int)) (c : Int) (h0 : 0 ≤ c) (hl : gs.length ≤ 1099511627776) (h1 : c + lenG gs ≤ 1099511627776) : ∀ (n i : Nat), i + n = gs.length → EvP (fun k => laws_heldIntSS_L26 k (markG c gs) (c + (lenG (gs.take i) : Nat)) (i : Int)) (fun r => r = c + lenG gs)
  | 0, i, h => by
    obtain rfl : i = gs.length := by omega
    refine EvP.fn (fun k => laws_heldIntSS_L26_eq k _ _ _) (EvP.decN (by rw [markG_len]; omega) (EvP.now ?_))
    rw [List.take_length]
  | n + 1, i, h => by
    have t1 := lenG_take gs i (by omega)
    have t2 := lenG_take_le gs (i + 1)
    refine EvP.fn (fun k => laws_heldIntSS_L26_eq k _ _ _) (EvP.decY (by rw [markG_len]; omega) (EvP.yes (by omega) (EvP.yes (by rw [markG_len]; omega) ?_)))
    rw [Int.toNat_natCast, markG_get gs c i (by omega)]
    refine EvP.bind (heldI_ev (gs.getD i []) (c + (lenG (gs.take i) : Nat)) (by omega) (by omega)) fun x hx => EvP.decN (by omega) ?_
    rw [w64 (by omega) (by omega)]
    have e : x = c + ((lenG (gs.take (i + 1)) : Nat) : Int) := by omega
    rw [e]
    exact heldG_loop gs c h0 hl h1 n (i + 1) (by omega)
theorem heldA_ev (b : Int) (es : List Bool) (gs : List (List Int)) (he : es.length + gs.length + lenG gs ≤ 1099511627) : EvP (fun k => laws_heldAuto k b (markB 1 es) (markG (1 + (es.length : Int)) gs) 1) (fun r => r = 1 + ((es.length + lenG gs : Nat) : Int)) := by
  refine EvP.fn (fun k => laws_heldAuto_eq k _ _ _ _) ?_
  have hB : EvP (fun k => laws_heldBoolS k (markB 1 es) 1) (fun r => r = 1 + (es.length : Int)) := by
    refine EvP.fn (fun k => laws_heldBoolS_eq k _ _) ?_
    have := heldB_loop es 1 (by omega) (by omega) es.length 0 (by omega)
    simpa using this
  refine EvP.bind hB fun x hx => EvP.decN (by omega) ?_
  subst hx
  have hG : EvP (fun k => laws_heldIntSS k (markG (1 + (es.length : Int)) gs) (1 + (es.length : Int))) (fun r => r = 1 + (es.length : Int) + lenG gs) := by
    refine EvP.fn (fun k => laws_heldIntSS_eq k _ _) ?_
    have := heldG_loop gs (1 + (es.length : Int)) (by omega) (by omega) (by omega) gs.length 0 (by omega)
    simpa [lenG] using this
  exact EvP.bind hG fun y hy => EvP.decN (by omega) (EvP.now (by omega))
/-- An automaton that is ok is small. -/
theorem okHeld {o : AutoT} (h : autoOk o = true) : o.2.1.length + o.2.2.length + lenG o.2.2 ≤ 100 := by
  have ok := okA h
  have h1 := ok.n
  have h2 := ok.l
  have h3 := lenG_le (c := 4) (gs := o.2.2) (fun r hr => by have := ok.r4 r hr; omega)
  omega
theorem wrapHeld (o : AutoT) : (wrapB o).1.2.1.length + (wrapB o).1.2.2.length + lenG (wrapB o).1.2.2 ≤ 100 := by
  unfold wrapB
  split
  · rename_i h; exact okHeld h
  · simp [lenG]
theorem ofHeld (s : List UInt8) : (ofA s).1.2.1.length + (ofA s).1.2.2.length + lenG (ofA s).1.2.2 ≤ 100 := by
  unfold ofA
  split
  · rename_i h; exact okHeld (outO_ok h.2)
  · simp [lenG]
theorem law_ev (s : List UInt8) (q0 : s.length ≤ maxLen) : EvP (fun k => laws_FnExactAutoOf k s) (fun r => r = true) := by
  refine EvP.fn (fun k => laws_FnExactAutoOf_eq k s) (EvP.dec (fun _ => EvP.now rfl) (fun h0 => ?_))
  have hn := ofHeld s
  have hnm : Mid (ofA s).1 := ⟨by omega, by omega, fun r hr => by have := lenG_mem hr; omega⟩
  refine EvP.bind (specOf_ev s (by omega)) fun w hw => EvP.bind (implOf_ev s) fun g hg => ?_
  subst hg hw
  refine EvP.bind (eqA_ev _ hnm) fun e1 he1 => EvP.yes (by simp [he1]) (EvP.no (by simp) (EvP.yes ⟨by omega, by omega⟩ ?_))
  have held := heldA_ev (ofA s).1.1 (ofA s).1.2.1 (ofA s).1.2.2 (by omega)
  refine EvP.bind held fun q hq => EvP.decN (by omega) (EvP.no (by simp [hq]) (EvP.bind (implOf_ev s) fun g hg => ?_))
  subst hg
  refine EvP.bind (eqA_ev _ hnm) fun e4 he4 => EvP.yes (by simp [he4]) (EvP.no (by simp) (EvP.bind held fun q hq => EvP.decN (by omega) (EvP.no (by simp [hq]) (EvP.now rfl))))
end Go.Proofs.YtiiefhpoomliaaaDoor.Pure
