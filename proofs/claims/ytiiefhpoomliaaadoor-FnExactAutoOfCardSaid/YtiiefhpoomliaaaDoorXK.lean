/- Numbers written over the rows of an automaton (laws.markAuto): walked. The rows are the caller's own; nothing else turns. -/
import Derived.Test.YtiiefhpoomliaaaDoorK4
import Derived.Test.YtiiefhpoomliaaaDoorChecked
import Derived.WalkKit
import Derived.BigCall
import Derived.Deep.LoopGhost
import Derived.Deep.OwnRows
namespace Go.Proofs.YtiiefhpoomliaaaDoor.XK
structure As (p : Prop) : Prop where
  out : p
open Go Go.RowKit Go.Proofs.YtiiefhpoomliaaaDoor.Eng
set_option linter.unusedVariables false
set_option autoImplicit false

/-- Outside of some blocks nothing has turned. -/
structure Oth (w w' : World) (O : Bs) : Prop where
  blk : ∀ b, ¬ O b → w'.heap[b]? = w.heap[b]?
  size : w'.heap.size = w.heap.size
  os : w'.os = w.os
  tape : w'.tape = w.tape
  output : w'.output = w.output
theorem Oth.refl (w : World) (O : Bs) : Oth w w O := ⟨fun _ _ => rfl, rfl, rfl, rfl, rfl⟩
theorem Oth.trans {w w' w'' : World} {O : Bs} (h : Oth w w' O) (h' : Oth w' w'' O) : Oth w w'' O :=
  ⟨fun b hb => (h'.blk b hb).trans (h.blk b hb), h'.size.trans h.size, h'.os.trans h.os, h'.tape.trans h.tape, h'.output.trans h.output⟩
theorem Oth.wide {w w' : World} {O O' : Bs} (h : Oth w w' O) (hO : ∀ b, O b → O' b) : Oth w w' O' :=
  ⟨fun b hb => h.blk b (fun h' => hb (hO b h')), h.size, h.os, h.tape, h.output⟩
theorem Oth.drew {w w' : World} {O : Bs} (h : Oth w w' O) : Oth w w'.drew O := ⟨h.blk, h.size, h.os, h.tape, h.output⟩
/-- Some cells of a block are written over. -/
structure Wr (w w' : World) (b off : Nat) (c : Array Value) (T : TypeId) (f : Nat → Value) (i : Nat) : Prop where
  blk : ∃ c', w'.heap[b]? = some (.cells c' T (0, 0)) ∧ c'.size = c.size ∧ (∀ j, j < i → c'[off + j]? = some (f j)) ∧ (∀ j, (j < off ∨ off + i ≤ j) → c'[j]? = c[j]?)
  oth : Oth w w' (fun x => x = b)
theorem Wr.start {w : World} {b off : Nat} {c : Array Value} {T : TypeId} {f : Nat → Value} (h : w.heap[b]? = some (.cells c T (0, 0))) : Wr w w b off c T f 0 :=
  ⟨⟨c, h, rfl, fun j hj => absurd hj (Nat.not_lt_zero _), fun _ _ => rfl⟩, Oth.refl _ _⟩
theorem Wr.cell {w w' : World} {b off : Nat} {c : Array Value} {T : TypeId} {f : Nat → Value} {i : Nat} (h : Wr w w' b off c T f i) (hi : off + i < c.size) : (∃ v, w'.cell? ⟨b, off + i, none⟩ = some v) ∧ w'.frozen? ⟨b, off + i, none⟩ = false := by
  obtain ⟨c', h1, h2, h3, h4⟩ := h.blk
  refine ⟨⟨c'.getD (off + i) undef, cell_row h1 (by omega)⟩, by simp [World.frozen?, h1]⟩
theorem Wr.step {w w' : World} {b off : Nat} {c : Array Value} {T : TypeId} {f : Nat → Value} {i : Nat} (h : Wr w w' b off c T f i) (hi : off + i < c.size) : Wr w (w'.setCell ⟨b, off + i, none⟩ (f i)) b off c T f (i + 1) := by
  obtain ⟨c', h1, h2, h3, h4⟩ := h.blk
  have e : (w'.setCell ⟨b, off + i, none⟩ (f i)).heap[b]? = some (.cells (c'.setIfInBounds (off + i) (f i)) T (0, 0)) := by
    simp only [World.setCell, Array.getElem?_modify]
    simp [h1]
  refine ⟨⟨_, e, by simp [h2], fun j hj => ?_, fun j hj => ?_⟩, h.oth.trans ⟨fun k hk => ?_, by simp [World.setCell], rfl, rfl, rfl⟩⟩
  · rw [Array.getElem?_setIfInBounds]
    by_cases e : j = i
    · subst e; rw [if_pos rfl, if_pos (by omega)]
    · rw [if_neg (by omega)]; exact h3 j (by omega)
  · rw [Array.getElem?_setIfInBounds, if_neg (by omega)]
    exact h4 j (by omega)
  · simp only [World.setCell, Array.getElem?_modify]
    rw [if_neg (fun e => hk e.symm)]
/-- A row of one's own whose elements take one cell each and hold no address. -/
theorem own1 {w : World} {D : Bs} {t : Ty} (hs : t.size = 1) (he : t.isEnt = false) (ht : ∀ s, t ≠ .sl s) {n : Nat} {xs : List t.den} {s : Value} {O : Bs} (h : OwnE w D (.sl t) (n + 1) xs [s] O) :
    ∃ ao cap, s = .slice ao (List.length xs) cap ∧ (0 < List.length xs → ∃ b off c T, ao = some ⟨b, off, none⟩ ∧ w.heap[b]? = some (.cells c T (0, 0)) ∧ off + List.length xs ≤ c.size ∧ (∀ x, O x ↔ x = b) ∧
      (∀ w' (zs : List t.den) f, Wr w w' b off c T f (List.length xs) → List.length zs = List.length xs → (∀ i, i < List.length xs → Rz w' D t (rd zs i) [f i]) → OwnE w' D (.sl t) (n + 1) zs [s] O)) := by
  rcases h.row he with ⟨h0, rfl, h1⟩ | ⟨b, off, cap, c, T, OO, rfl, hb, hn, hc, hl, hall, hOO, hnb, hdis⟩
  · exact ⟨none, 0, by rw [h0], fun h => by omega⟩
  · rw [hs, Nat.mul_one] at hc
    have hemp : ∀ i, i < List.length xs → ∀ x, ¬ OO i x := fun i hi => by
      obtain ⟨us, _, _, g⟩ := hall i hi
      exact ((OwnE.other ht).1 g).2
    have hO : ∀ x, O x ↔ x = b := fun x => (hOO x).trans ⟨fun h => h.elim id (fun ⟨i, hi, h⟩ => absurd h (hemp i hi x)), .inl⟩
    refine ⟨some ⟨b, off, none⟩, cap, rfl, fun h0 => ⟨b, off, c, T, rfl, hb, by omega, hO, fun w' zs f W hz hR => ?_⟩⟩
    obtain ⟨c', h1, h2, h3, h4⟩ := W.blk
    refine OwnE.mk he (.inr ⟨b, off, cap, c', T, OO, by rw [hz], h1, by omega, by rw [hs]; omega, hl, fun i hi => ?_, fun x => by rw [hz]; exact hOO x, fun i hi => hnb i (by omega), fun i j x hi hj => hdis i j x (by omega) (by omega)⟩)
    rw [hz] at hi
    refine ⟨[f i], by rw [hs]; rfl, fun j hj => ?_, (OwnE.other ht).2 ⟨hR i hi, hemp i hi⟩⟩
    rw [hs] at hj ⊢
    obtain rfl : j = 0 := by omega
    rw [Nat.mul_one, Nat.add_zero]
    exact h3 i hi
theorem OwnE.oth {w w' : World} {D : Bs} {t : Ty} {n : Nat} {x : t.den} {vs : List Value} {O O' : Bs} (h : OwnE w D t n x vs O) (hw : Oth w w' O') (hD : ∀ b, D b → ¬ O' b) (hO : ∀ b, O b → ¬ O' b) : OwnE w' D t n x vs O :=
  OwnE.mono (fun _ h => h) (fun b hb => hw.blk b (hD b hb)) _ _ _ _ _ (fun b hb => hw.blk b (hO b hb)) h
theorem markB_len : ∀ (xs : List Bool) (k : Int), List.length (markB k xs) = List.length xs
  | [], _ => rfl
  | _ :: l, k => by simp [markB, markB_len l]
theorem markI_len : ∀ (xs : List Int) (k : Int), List.length (markI k xs) = List.length xs
  | [], _ => rfl
  | _ :: l, k => by simp [markI, markI_len l]
theorem markB_get : ∀ (xs : List Bool) (k : Int) (i : Nat), i < xs.length → (markB k xs).getD i false = decide ((k + i).tmod 3 = 0)
  | [], _, i, h => absurd h (Nat.not_lt_zero _)
  | _ :: l, k, 0, h => by simp [markB]
  | _ :: l, k, i + 1, h => by
    have := markB_get l (k + 1) i (by simpa using h)
    simp only [markB, List.getD_cons_succ, this]
    have e : k + 1 + (i : Int) = k + ((i + 1 : Nat) : Int) := by omega
    rw [e]
theorem markI_get : ∀ (xs : List Int) (k : Int) (i : Nat), i < xs.length → (markI k xs).getD i 0 = k + i
  | [], _, i, h => absurd h (Nat.not_lt_zero _)
  | _ :: l, k, 0, h => by simp [markI]
  | _ :: l, k, i + 1, h => by
    have := markI_get l (k + 1) i (by simpa using h)
    simp only [markI, List.getD_cons_succ, this]
    omega
theorem markB_own {w : World} {xs : List Bool} {k i : Nat} {D : Bs} (h : i < List.length xs) : Rz w D .bool (rd (t := .bool) (markB (k : Int) xs) i) [.bool (((k : Int) + (i : Int)) % 3 == 0)] := by
  show [_] = [_]
  have e : rd (t := .bool) (markB (k : Int) xs) i = decide (((k : Int) + i).tmod 3 = 0) := markB_get xs k i h
  rw [e, Int.tmod_eq_emod_of_nonneg (by omega)]
  congr 2
theorem markI_own {w : World} {xs : List Int} {k i : Nat} {D : Bs} (h : i < List.length xs) : Rz w D (.int .i64) (rd (t := .int .i64) (markI (k : Int) xs) i) [.int .i64 (((k + i : Nat)) : Int)] := by
  show [_] = [_]
  have e : rd (t := .int .i64) (markI (k : Int) xs) i = (k : Int) + i := markI_get xs k i h
  rw [e]
  congr 2
set_option maxHeartbeats 1000000 in
set_option maxRecDepth 100000 in
theorem markB_calls {w : World} {D : Bs} {n k : Nat} {xs : List Bool} {s : Value} {O : Bs} (h : OwnE w D (.sl .bool) (n + 1) xs [s] O) (hk : k + List.length xs ≤ 1099511627776) :
    Calls Tryd.prog 14 #[s, .int .i64 (k : Nat)] w fun e w' => e = .returned (.int .i64 ((k + List.length xs : Nat) : Int)) ∧ OwnE w' D (.sl .bool) (n + 1) (markB k xs) [s] O ∧ Oth w w' O := by
  obtain ⟨ao, cap, rfl, hrow⟩ := own1 rfl rfl (fun _ => by simp) h
  generalize hN : List.length xs = N at hrow hk
  by_cases h0 : 0 < N
  · obtain ⟨b, off, c, T, rfl, hb, hsz, hO, hfin⟩ := hrow h0
    clear hrow
    have W0 := As.mk (Wr.start (off := off) (f := fun j => .bool (((k : Int) + (j : Int)) % 3 == 0)) hb)
    have HS := As.mk hsz
    have HF := As.mk hfin
    have HX := As.mk hN
    have HO := As.mk hO
    clear hb hsz hfin hN hO h
    go_enter Tryd.func14, Tryd.ntmps14
    go_wp2
    go_loopg [1, 5] N (fun g s1 s5 wr => ∃ i : Nat, s1 = .int .i64 ((k + i : Nat) : Int) ∧ s5 = .int .i64 (i : Int) ∧ i ≤ N ∧ N ≤ i + g ∧ As (Wr w wr b off c T (fun j => .bool (((k : Int) + (j : Int)) % 3 == 0)) i))
    case atStart => exact ⟨0, rfl, rfl, by omega, by omega, W0⟩
    case round =>
      obtain ⟨i, rfl, rfl, hi, hg, WI⟩ := hrel
      by_cases hlt : i < N
      · have hlt' : (i : Int) < (N : Int) := by omega
        have WS := As.mk (WI.out.step (by have := HS.out; omega))
        obtain ⟨⟨v, c1⟩, f1⟩ := WI.out.cell (by have := HS.out; omega)
        go_wp2
        go_roundg (N - (i + 1))
        case measure => omega
        case rel => exact ⟨i + 1, by congr 1, by congr 1, by omega, by omega, WS⟩
      · have hlt' : ¬ (i : Int) < (N : Int) := by omega
        obtain rfl : i = N := by omega
        go_wp2
        go_ret
        have hx := HX.out
        refine ⟨rfl, HF.out _ _ _ WI.out (by rw [markB_len, hx]) (fun j hj => markB_own (by omega)), WI.out.oth.wide (fun x hx => (HO.out x).2 hx)⟩
  · obtain rfl : N = 0 := by omega
    obtain rfl : xs = [] := List.eq_nil_of_length_eq_zero hN
    have HH := As.mk h
    clear h hrow h0 hN
    go_enter Tryd.func14, Tryd.ntmps14
    go_wp2
    go_loopg [1, 5] 0 (fun g s1 s5 wr => s1 = .int .i64 (k : Int) ∧ s5 = .int .i64 0 ∧ wr = w)
    case atStart => exact ⟨rfl, rfl, rfl⟩
    case round =>
      obtain ⟨rfl, rfl, rfl⟩ := hrel
      go_wp2
      go_ret
      exact ⟨rfl, HH.out, Oth.refl _ _⟩
set_option maxHeartbeats 1000000 in
set_option maxRecDepth 100000 in
theorem markI_calls {w : World} {D : Bs} {n k : Nat} {xs : List Int} {s : Value} {O : Bs} (h : OwnE w D (.sl (.int .i64)) (n + 1) xs [s] O) (hk : k + List.length xs ≤ 1099511627776) :
    Calls Tryd.prog 22 #[s, .int .i64 (k : Nat)] w fun e w' => e = .returned (.int .i64 ((k + List.length xs : Nat) : Int)) ∧ OwnE w' D (.sl (.int .i64)) (n + 1) (markI k xs) [s] O ∧ Oth w w' O := by
  obtain ⟨ao, cap, rfl, hrow⟩ := own1 rfl rfl (fun _ => by simp) h
  generalize hN : List.length xs = N at hrow hk
  by_cases h0 : 0 < N
  · obtain ⟨b, off, c, T, rfl, hb, hsz, hO, hfin⟩ := hrow h0
    clear hrow
    have W0 := As.mk (Wr.start (off := off) (f := fun j => .int .i64 ((k + j : Nat) : Int)) hb)
    have HS := As.mk hsz
    have HF := As.mk hfin
    have HX := As.mk hN
    have HO := As.mk hO
    clear hb hsz hfin hN hO h
    go_enter Tryd.func22, Tryd.ntmps22
    go_wp2
    go_loopg [1, 5] N (fun g s1 s5 wr => ∃ i : Nat, s1 = .int .i64 ((k + i : Nat) : Int) ∧ s5 = .int .i64 (i : Int) ∧ i ≤ N ∧ N ≤ i + g ∧ As (Wr w wr b off c T (fun j => .int .i64 ((k + j : Nat) : Int)) i))
    case atStart => exact ⟨0, rfl, rfl, by omega, by omega, W0⟩
    case round =>
      obtain ⟨i, rfl, rfl, hi, hg, WI⟩ := hrel
      by_cases hlt : i < N
      · have hlt' : (i : Int) < (N : Int) := by omega
        have WS := As.mk (WI.out.step (by have := HS.out; omega))
        obtain ⟨⟨v, c1⟩, f1⟩ := WI.out.cell (by have := HS.out; omega)
        go_wp2
        go_roundg (N - (i + 1))
        case measure => omega
        case rel => exact ⟨i + 1, by congr 1, by congr 1, by omega, by omega, WS⟩
      · have hlt' : ¬ (i : Int) < (N : Int) := by omega
        obtain rfl : i = N := by omega
        go_wp2
        go_ret
        have hx := HX.out
        refine ⟨rfl, HF.out _ _ _ WI.out (by rw [markI_len, hx]) (fun j hj => markI_own (by omega)), WI.out.oth.wide (fun x hx => (HO.out x).2 hx)⟩
  · obtain rfl : N = 0 := by omega
    obtain rfl : xs = [] := List.eq_nil_of_length_eq_zero hN
    have HH := As.mk h
    clear h hrow h0 hN
    go_enter Tryd.func22, Tryd.ntmps22
    go_wp2
    go_loopg [1, 5] 0 (fun g s1 s5 wr => s1 = .int .i64 (k : Int) ∧ s5 = .int .i64 0 ∧ wr = w)
    case atStart => exact ⟨rfl, rfl, rfl⟩
    case round =>
      obtain ⟨rfl, rfl, rfl⟩ := hrel
      go_wp2
      go_ret
      exact ⟨rfl, HH.out, Oth.refl _ _⟩
/-- An element of rows of rows. -/
theorem lens {w : World} {D : Bs} {n : Nat} {gs : List (List Int)} {s : Value} {O : Bs} (h : OwnE w D (.sl (.sl (.int .i64))) (n + 2) gs [s] O) {i : Nat} (hi : i < List.length gs) :
    ∃ b off cap hdr Oi, s = .slice (some ⟨b, off, none⟩) (List.length gs) cap ∧ w.cell? ⟨b, off + i, none⟩ = some hdr ∧ OwnE w D (.sl (.int .i64)) (n + 1) (gs.getD i []) [hdr] Oi ∧ (∀ x, Oi x → O x) ∧
      ∀ w' (ys : List Int), Oth w w' Oi → (∀ b, D b → ¬ O b) → OwnE w' D (.sl (.int .i64)) (n + 1) ys [hdr] Oi → OwnE w' D (.sl (.sl (.int .i64))) (n + 2) (gs.set i ys) [s] O := by
  rcases h.row rfl with ⟨h0, _⟩ | ⟨b, off, cap, c, T, OO, rfl, hb, hn, hc, hl, hall, hOO, hnb, hdis⟩
  · omega
  · obtain ⟨us, h1, h2, h3⟩ := hall i hi
    obtain ⟨hdr, rfl⟩ : ∃ u, us = [u] := by
      match us, h1 with
      | [u], _ => exact ⟨u, rfl⟩
    have hc1 := h2 0 (by simp [Ty.size])
    simp only [Ty.size, Nat.mul_one, Nat.add_zero, List.getElem?_cons_zero] at hc1
    have hsub : ∀ x, OO i x → O x := fun x hx => (hOO x).2 (.inr ⟨i, hi, hx⟩)
    refine ⟨b, off, cap, hdr, OO i, rfl, by simp [World.cell?, hb, hc1], h3, hsub, fun w' ys W hD hy => ?_⟩
    have hlen : List.length (gs.set i ys) = List.length gs := List.length_set
    refine OwnE.mk rfl (.inr ⟨b, off, cap, c, T, OO, by rw [hlen], (W.blk b (hnb i hi)).trans hb, by rw [hlen]; exact hn, hc, hl, fun j hj => ?_, fun x => by rw [hlen]; exact hOO x, fun j hj => hnb j (by rw [hlen] at hj; exact hj), fun j j' x hj hj' => hdis j j' x (by rw [hlen] at hj; exact hj) (by rw [hlen] at hj'; exact hj')⟩)
    rw [hlen] at hj
    by_cases e : j = i
    · subst e
      have e2 : rd (t := .sl (.int .i64)) (gs.set j ys) j = ys := by simp [rd, List.getD, hj]
      refine ⟨[hdr], h1, h2, ?_⟩
      show OwnE w' D _ _ (rd (t := .sl (.int .i64)) (gs.set j ys) j) _ _
      rw [e2]; exact hy
    · obtain ⟨us', k1, k2, k3⟩ := hall j hj
      have e2 : rd (t := .sl (.int .i64)) (gs.set i ys) j = rd (t := .sl (.int .i64)) gs j := by simp [rd, List.getD, List.getElem?_set_ne (Ne.symm e)]
      refine ⟨us', k1, k2, ?_⟩
      show OwnE w' D _ _ (rd (t := .sl (.int .i64)) (gs.set i ys) j) _ _
      rw [e2]
      exact OwnE.oth k3 W (fun b hb hx => hD b hb (hsub b hx)) (fun x hx hx' => e (hdis j i x hj hi hx hx'))
theorem markG_len : ∀ (gs : List (List Int)) (k : Int), List.length (markG k gs) = List.length gs
  | [], _ => rfl
  | _ :: l, k => by simp [markG, markG_len l]
theorem lenG_take_le : ∀ (gs : List (List Int)) (j : Nat), lenG (gs.take j) ≤ lenG gs
  | [], _ => by simp [lenG]
  | x :: l, 0 => by simp [lenG]
  | x :: l, j + 1 => by simp only [List.take_succ_cons, lenG]; have := lenG_take_le l j; omega
theorem lenG_take : ∀ (gs : List (List Int)) (j : Nat), j < List.length gs → lenG (gs.take (j + 1)) = lenG (gs.take j) + List.length (gs.getD j [])
  | [], _, h => absurd h (Nat.not_lt_zero _)
  | x :: l, 0, h => by simp [lenG]
  | x :: l, j + 1, h => by
    simp only [List.take_succ_cons, lenG, List.getD_cons_succ]
    rw [lenG_take l j (by simpa using h)]; omega
/-- The first j rows are marked. -/
def upTo (k : Int) (gs : List (List Int)) (j : Nat) : List (List Int) := markG k (gs.take j) ++ gs.drop j
theorem upTo_len (k : Int) (gs : List (List Int)) (j : Nat) (h : j ≤ List.length gs) : List.length (upTo k gs j) = List.length gs := by
  simp [upTo, markG_len]; omega
theorem upTo_zero (k : Int) (gs : List (List Int)) : upTo k gs 0 = gs := by simp [upTo, markG]
theorem upTo_all (k : Int) (gs : List (List Int)) : upTo k gs (List.length gs) = markG k gs := by simp [upTo]
theorem upTo_get : ∀ (gs : List (List Int)) (k : Int) (j : Nat), j < List.length gs → (upTo k gs j).getD j [] = gs.getD j []
  | [], _, _, h => absurd h (Nat.not_lt_zero _)
  | x :: l, k, 0, h => by simp [upTo, markG]
  | x :: l, k, j + 1, h => by
    have := upTo_get l (k + (List.length x : Nat)) j (by simpa using h)
    simpa [upTo, markG] using this
theorem upTo_set : ∀ (gs : List (List Int)) (k : Int) (j : Nat), j < List.length gs → (upTo k gs j).set j (markI (k + (lenG (gs.take j) : Nat)) (gs.getD j [])) = upTo k gs (j + 1)
  | [], _, _, h => absurd h (Nat.not_lt_zero _)
  | x :: l, k, 0, h => by simp [upTo, markG, lenG]
  | x :: l, k, j + 1, h => by
    have := upTo_set l (k + (List.length x : Nat)) j (by simpa using h)
    have e : k + ((lenG ((x :: l).take (j + 1)) : Nat) : Int) = k + (List.length x : Nat) + ((lenG (l.take j) : Nat) : Int) := by
      simp only [List.take_succ_cons, lenG]; omega
    rw [e]
    simpa [upTo, markG] using this
set_option maxHeartbeats 1000000 in
set_option maxRecDepth 100000 in
theorem markG_calls {w : World} {D : Bs} {n k : Nat} {gs : List (List Int)} {s : Value} {O : Bs} (h : OwnE w D (.sl (.sl (.int .i64))) (n + 2) gs [s] O) (hD : ∀ b, D b → ¬ O b) (hk : k + lenG gs ≤ 1099511627776) :
    Calls Tryd.prog 15 #[s, .int .i64 (k : Nat)] w fun e w' => e = .returned (.int .i64 ((k + lenG gs : Nat) : Int)) ∧ OwnE w' D (.sl (.sl (.int .i64))) (n + 2) (markG k gs) [s] O ∧ Oth w w' O := by
  obtain ⟨ao, cap, hs, hlen⟩ : ∃ ao cap, s = .slice ao (List.length gs) cap ∧ List.length gs ≤ 9223372036854775807 := by
    rcases h.row rfl with ⟨h0, rfl, h1⟩ | ⟨b, off, cap, c, T, OO, rfl, _, hn, _, hl, _⟩
    · exact ⟨none, 0, by rw [h0], by omega⟩
    · exact ⟨_, _, rfl, Nat.le_trans hn hl⟩
  have H0 : As (OwnE w D (.sl (.sl (.int .i64))) (n + 2) (upTo k gs 0) [s] O) := ⟨by rw [upTo_zero]; exact h⟩
  obtain ⟨N, hN⟩ : ∃ N, As (List.length gs = N) := ⟨_, ⟨rfl⟩⟩
  rw [hN.out] at hs hlen
  subst hs
  have HD := As.mk hD
  have HK := As.mk hk
  clear h hD hk
  go_enter Tryd.func15, Tryd.ntmps15
  go_wp2
  go_loopg [1, 5] N (fun g s1 s5 wr => ∃ i m : Nat, s1 = .int .i64 ((m : Nat) : Int) ∧ s5 = .int .i64 (i : Int) ∧ i ≤ N ∧ N ≤ i + g ∧ As (m = k + lenG (gs.take i)) ∧ As (OwnE wr D (.sl (.sl (.int .i64))) (n + 2) (upTo k gs i) [.slice ao N cap] O) ∧ As (Oth w wr O))
  case atStart => exact ⟨0, k, rfl, rfl, by omega, by omega, ⟨by simp [lenG]⟩, H0, ⟨Oth.refl _ _⟩⟩
  case round =>
    obtain ⟨i, m, rfl, rfl, hi, hg, HM, HI, HO⟩ := hrel
    by_cases hlt : i < N
    · have hlt' : (i : Int) < (N : Int) := by omega
      have hl : i < List.length (upTo k gs i) := by rw [upTo_len _ _ _ (by have := hN.out; omega)]; have := hN.out; omega
      obtain ⟨b, off, cap', hdr, Oi, e1, c1, o1, hsub, hfin⟩ := lens HI.out hl
      obtain ⟨rfl, rfl⟩ : ao = some ⟨b, off, none⟩ ∧ cap = cap' := by simpa using (Value.slice.inj e1).imp id And.right
      have hgi := upTo_get gs k i (by have := hN.out; omega)
      rw [hgi] at o1
      obtain ⟨ao', cap2, rfl, _⟩ := own1 rfl rfl (fun _ => by simp) o1
      have HF := As.mk hfin
      have HS := As.mk hsub
      have hm : As (m + List.length (gs.getD i []) ≤ 1099511627776) := ⟨by
        have := lenG_take gs i (by have := hN.out; omega)
        have := lenG_take_le gs (i + 1)
        have := HM.out; have := HK.out; omega⟩
      have hc := @markI_calls wr D n m (gs.getD i []) _ Oi o1 hm.out
      clear hfin hsub hl e1 hgi o1
      go_wp2_with (go_at_call 22; refine hc.mono ?_)
      rintro e w1 ⟨rfl, h1, h2⟩
      have H2 := As.mk (HF.out w1 _ h2 HD.out h1)
      have H3 := As.mk (HO.out.trans (h2.wide HS.out))
      clear h1 h2 hc
      go_wp2
      go_roundg (N - (i + 1))
      case measure => omega
      case rel =>
        refine ⟨i + 1, m + List.length (gs.getD i []), by first | rfl | (congr 1; done) | (congr 1; omega), by first | rfl | (congr 1; done) | (congr 1; omega), by omega, by omega, ⟨?_⟩, ⟨?_⟩, H3⟩
        · rw [lenG_take gs i (by have := hN.out; omega)]; have := HM.out; omega
        · have := H2.out
          have e : ((m : Nat) : Int) = (k : Int) + ((lenG (gs.take i) : Nat) : Int) := by have := HM.out; omega
          rw [e, upTo_set gs k i (by have := hN.out; omega)] at this
          exact this
    · have hlt' : ¬ (i : Int) < (N : Int) := by omega
      obtain rfl : i = N := by omega
      go_wp2
      go_ret
      have e1 := HM.out
      have e2 := HI.out
      rw [← hN.out, List.take_length] at e1
      rw [← hN.out, upTo_all] at e2
      rw [e1]
      refine ⟨by congr 1, ?_, HO.out⟩
      rw [hN.out] at e2
      exact e2
set_option maxHeartbeats 1000000 in
set_option maxRecDepth 100000 in
theorem mark_calls (w : World) (D : Bs) (bv k : Int) (s1 s2 : Value) (n1 n2 : Nat) (xs : List Bool) (gs : List (List Int)) (O1 O2 : Bs) (h1 : OwnE w D (.sl .bool) (n1 + 1) xs [s1] O1) (hn2 : 1 ≤ n2) (h2 : OwnE w D (.sl (.sl (.int .i64))) (n2 + 1) gs [s2] O2) (hdis : ∀ b, O1 b → b < w.heap.size ∧ ¬ O2 b) (hlt2 : ∀ b, O2 b → b < w.heap.size) (hD : ∀ b, D b → b < w.heap.size ∧ ¬ O1 b ∧ ¬ O2 b)
    (hk0 : 0 ≤ k) (hk : k + ((List.length xs + lenG gs : Nat) : Int) ≤ 1099511627776) :
    Calls Tryd.prog 7 #[.agg #[.int .i64 bv, s1, s2], .int .i64 k] w fun e w' => match e with
      | .returned v => v = .int .i64 (k + ((List.length xs + lenG gs : Nat) : Int)) ∧ OwnE w' D (.sl .bool) (n1 + 1) (markB k xs) [s1] O1 ∧ OwnE w' D (.sl (.sl (.int .i64))) (n2 + 1) (markG (k + (List.length xs : Nat)) gs) [s2] O2 ∧
          (∀ b, b < w.heap.size → ¬ O1 b → ¬ O2 b → w'.heap[b]? = w.heap[b]?) ∧ w.heap.size ≤ w'.heap.size ∧ w'.os = w.os ∧ w'.tape = w.tape ∧ w'.output = w.output
      | _ => False := by
  obtain ⟨k, rfl⟩ : ∃ m : Nat, k = m := ⟨k.toNat, by omega⟩
  obtain ⟨n2, rfl⟩ : ∃ m, n2 = m + 1 := ⟨n2 - 1, by omega⟩
  obtain ⟨ao1, cap1, rfl, hrow1⟩ := own1 rfl rfl (fun _ => by simp) h1
  obtain ⟨ao2, N2, cap2, rfl⟩ : ∃ ao N cap, s2 = .slice ao N cap := by
    rcases h2.row rfl with ⟨h0, rfl, _⟩ | ⟨b, off, cap, c, T, OO, rfl, _⟩
    · exact ⟨none, _, 0, rfl⟩
    · exact ⟨_, _, _, rfl⟩
  clear hrow1
  obtain ⟨N1, hN1⟩ : ∃ N, As (List.length xs = N) := ⟨_, ⟨rfl⟩⟩
  rw [hN1.out] at h1 hk ⊢
  have hu := Tryd.underlying25
  have H1 : ∀ o : Obj, OwnE (w.alloc o) D (.sl .bool) (n1 + 1) xs [.slice ao1 N1 cap1] O1 := fun o => OwnE.mono (fun _ h => h) (fun b hb => heap_alloc_lt w o (hD b hb).1) _ _ _ _ _ (fun b hb => heap_alloc_lt w o (hdis b hb).1) h1
  have H2 : ∀ o : Obj, OwnE (w.alloc o) D (.sl (.sl (.int .i64))) (n2 + 2) gs [.slice ao2 N2 cap2] O2 := fun o => OwnE.mono (fun _ h => h) (fun b hb => heap_alloc_lt w o (hD b hb).1) _ _ _ _ _ (fun b hb => heap_alloc_lt w o (hlt2 b hb)) h2
  have HD1 := As.mk hdis
  have HD2 := As.mk hD
  have HL2 := As.mk hlt2
  have HK : As (k + (N1 + lenG gs) ≤ 1099511627776) := ⟨by omega⟩
  clear h1 h2 hdis hD hlt2 hk hk0
  go_enter Tryd.func7, Tryd.ntmps7
  go_wp2_with (first | (go_at_call 14; refine (markB_calls (H1 _) (by have := HK.out; have := hN1.out; omega)).mono ?_))
  rintro e w1 ⟨rfl, p1, p2⟩
  have hnew : (w.alloc (Obj.cells #[Value.int IntKind.i64 bv, Value.slice ao1 N1 cap1, Value.slice ao2 N2 cap2] 25)).heap[w.heap.size]? = some (Obj.cells #[Value.int IntKind.i64 bv, Value.slice ao1 N1 cap1, Value.slice ao2 N2 cap2] 25) := heap_alloc_new w _
  have c2 : w1.cell? ⟨w.heap.size, 2, none⟩ = some (.slice ao2 N2 cap2) := by
    have e1 := (p2.blk w.heap.size (fun h => Nat.lt_irrefl _ (HD1.out _ h).1)).trans hnew
    simp [World.cell?, e1]
  have A2 : OwnE w1 D (.sl (.sl (.int .i64))) (n2 + 2) gs [.slice ao2 N2 cap2] O2 := OwnE.oth (H2 _) p2 (fun b hb => (HD2.out b hb).2.1) (fun b hb h => (HD1.out b h).2 hb)
  have A1 := As.mk p1
  have P2 := As.mk p2
  have hcall := @markG_calls w1 D n2 (k + N1) gs _ O2 A2 (fun b hb => (HD2.out b hb).2.2) (by have := HK.out; omega)
  have hx : ((k + List.length xs : Nat) : Int) = ((k + N1 : Nat) : Int) := by rw [hN1.out]
  rw [hx]
  clear p1 p2 hnew A2 H1 H2 hx
  go_wp2_with (first | (go_at_call 15; refine hcall.mono ?_))
  rintro e w2 ⟨rfl, q1, q2⟩
  have Q1 := As.mk q1
  have Q2 := As.mk q2
  clear q1 q2 hcall
  go_wp2
  go_ret
  have hal : ∀ b, b < w.heap.size → (w.alloc (Obj.cells #[Value.int IntKind.i64 bv, Value.slice ao1 N1 cap1, Value.slice ao2 N2 cap2] 25)).heap[b]? = w.heap[b]? := fun b hb => heap_alloc_lt w _ hb
  refine ⟨?_, OwnE.oth A1.out Q2.out (fun b hb => (HD2.out b hb).2.2) (fun b hb => (HD1.out b hb).2), ?_, fun b hb h1 h2 => ((Q2.out.blk b h2).trans (P2.out.blk b h1)).trans (hal b hb), ?_, Q2.out.os.trans P2.out.os, Q2.out.tape.trans P2.out.tape, Q2.out.output.trans P2.out.output⟩
  · have e : (k : Int) + (N1 : Int) + (lenG gs : Int) = (k : Int) + ((N1 + lenG gs : Nat) : Int) := by omega
    show Value.int .i64 ((k : Int) + (N1 : Int) + (lenG gs : Int)) = _
    rw [e]
  · have := Q1.out
    have e : (((k + N1 : Nat)) : Int) = (k : Int) + (N1 : Int) := by omega
    rw [e] at this
    exact this
  · rw [Q2.out.size, P2.out.size]; simp
end Go.Proofs.YtiiefhpoomliaaaDoor.XK
