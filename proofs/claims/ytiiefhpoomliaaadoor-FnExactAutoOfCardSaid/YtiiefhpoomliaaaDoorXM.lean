/- slices.Repeat at []int, of one element: walked. -/
import Derived.Test.YtiiefhpoomliaaaDoorK4
import Derived.Test.YtiiefhpoomliaaaDoorMshelf
import Derived.WalkKit
import Derived.BigCall
import Derived.Deep.LoopGhost
import Derived.Deep.OwnRows
import Derived.Laws.CopyOwn
namespace Go.Proofs.YtiiefhpoomliaaaDoor.XM
open Go Go.RowKit Go.Shelf Go.Lib Go.Proofs.YtiiefhpoomliaaaDoor.Eng
set_option linter.unusedVariables false
set_option autoImplicit false
def cellsN (v : Int) (n c : Nat) : List Value := List.replicate n (Value.int .i64 v) ++ List.replicate (c - n) (Value.int .i64 0)
theorem cellsN_splice (v : Int) (n m c : Nat) (h : n + m ≤ c) : splice (cellsN v n c) n (List.replicate m (Value.int .i64 v)) = cellsN v (n + m) c := by
  unfold splice cellsN
  rw [List.take_left' (by simp), List.length_replicate, List.drop_append, List.drop_replicate, List.drop_replicate, List.length_replicate, ← List.append_assoc, ← List.append_assoc, List.replicate_append_replicate]
  have e1 : n - (n + m) = 0 := by omega
  have e2 : c - n - (n + m - n) = c - (n + m) := by omega
  rw [e1, e2]
  simp
theorem cellsN_get (v : Int) (n c j : Nat) (h : j < n) : (cellsN v n c)[j]? = some (Value.int .i64 v) := by
  unfold cellsN
  rw [List.getElem?_append_left (by simpa using h), List.getElem?_replicate, if_pos h]
theorem cellsN_zero (v : Int) (c : Nat) : (madeCells #[Value.int .i64 0] c) = (cellsN v 0 c).toArray := by
  apply Array.ext'
  simp only [madeCells, cellsN, List.replicate_zero, List.nil_append, Nat.sub_zero, Array.toList_map, Array.toList_range]
  apply List.ext_getElem
  · simp
  · intro i h1 h2
    simp [Nat.mod_one]
theorem cellsN_full (v : Int) (c : Nat) : cellsN v c c = List.replicate c (Value.int .i64 v) := by simp [cellsN]
theorem cellsN_length (v : Int) (n c : Nat) (h : n ≤ c) : (cellsN v n c).length = c := by simp [cellsN]; omega
theorem infoInt : (Tryd.prog.info? 3).map (fun i => (i.zero, i.size, i.bytes)) = some (some (.int .i64 0), 1, 8) := by kernel_rfl
theorem sizeInt : (Tryd.prog.info? 3).map (·.size) = some 1 := by kernel_rfl
set_option maxHeartbeats 1000000 in
set_option maxRecDepth 100000 in
theorem repeat_calls (v : Int) (c cap b off : Nat) (w : World) (hc1 : 1 ≤ c) (hc : c ≤ 1000000) (hcell : w.cell? ⟨b, off, none⟩ = some (.int .i64 v)) (hlt : b < w.heap.size) :
    Calls Tryd.prog 11 #[.slice (some ⟨b, off, none⟩) 1 cap, .int .i64 c] w fun e w' => e = .returned (.slice (some ⟨w.heap.size, 0, none⟩) c c) ∧ w'.heap[w.heap.size]? = some (.cells (List.replicate c (Value.int .i64 v)).toArray 3 (0, 0)) ∧ Below w.heap.size w w' := by
  obtain ⟨i0, hi, hz0, hz1, hz2⟩ := info_parts infoInt
  have hMul := Tryd.bits_Mul 1 c (by omega) (by omega) w
  rw [Nat.one_mul, Nat.div_eq_of_lt (by omega : c < 18446744073709551616), Nat.mod_eq_of_lt (by omega : c < 18446744073709551616)] at hMul
  have hw1 : (w.alloc (.cells (madeCells #[Value.int .i64 0] c) 3)).heap[w.heap.size]? = some (.cells (cellsN v 0 c).toArray 3 (0, 0)) := by
    rw [← cellsN_zero]; exact heap_alloc_new w _
  have hb1 : Below w.heap.size w (w.alloc (.cells (madeCells #[Value.int .i64 0] c) 3)) := (Below.refl _ w).alloc (Nat.le_refl _) _
  have hc1' : (w.alloc (.cells (madeCells #[Value.int .i64 0] c) 3)).cell? ⟨b, off, none⟩ = some (.int .i64 v) := by rw [hb1.cell hlt]; exact hcell
  generalize hw1e : w.alloc (.cells (madeCells #[Value.int .i64 0] c) 3) = w1 at hw1 hb1 hc1'
  obtain ⟨w2, hcp, HG2, hB2⟩ : ∃ w2, (Builtin.copy_ #[31, 31] 3 #[.slice (some ⟨w.heap.size, 0, none⟩) c c, .slice (some ⟨b, off, none⟩) 1 cap]).run Tryd.prog w1 = .ok (goInt 1) w2 ∧ Hid (w2.heap[w.heap.size]? = some (.cells (cellsN v 1 c).toArray 3 (0, 0))) ∧ Below w.heap.size w w2 := by
    have h := run_copy_row Tryd.prog w1 31 31 3 3 w.heap.size 0 c c ⟨b, off, none⟩ 1 cap (cellsN v 0 c).toArray 3 (List.replicate 1 (Value.int .i64 v)) Tryd.underlying31 sizeInt hw1 (by show 1 = min 1 c; omega) (fun j u hj => by
      have hj1 : j < 1 := by simpa using (List.getElem?_eq_some_iff.1 hj).1
      obtain rfl : j = 0 := by omega
      have hu : u = Value.int .i64 v := by simpa using hj.symm
      rw [hu]
      exact hc1') (by rw [← Array.length_toList]; show 0 + 1 ≤ (cellsN v 0 c).length; rw [cellsN_length v 0 c (Nat.zero_le _)]; omega) (fun u hu => by rw [List.eq_of_mem_replicate hu]; rfl)
    refine ⟨_, h, ?_, below_setRow hb1 (Nat.le_refl _) _⟩
    have := cellsN_splice v 0 1 c (by omega)
    rw [Nat.zero_add] at this
    show _ = _
    rw [← this, setRow_heap w1 _ _ _ _ _ hw1]
    unfold splice
    simp
  clear hw1 hb1 hc1'
  go_enter Tryd.func11, Tryd.ntmps11
  go_wp2_with (first
    | (go_at_call 20; refine hMul.mono ?_; rintro e w' ⟨rfl, hw⟩; rw [hw])
    | (at_make; refine wpList_make_row _ rfl _ _ _ rfl 3 i0 (.int .i64 0) Tryd.underlying31 hi hz0 hz1 rfl .i64 .i64 c rfl rfl (by rw [hz2]; omega) (by omega) ?_; rw [hw1e]))
  go_loopg [8] c (fun g s8 wr => ∃ n : Nat, s8 = .int .i64 n ∧ 1 ≤ n ∧ n ≤ c ∧ c ≤ n + g ∧ Hid (wr.heap[w.heap.size]? = some (.cells (cellsN v n c).toArray 3 (0, 0))) ∧ Below w.heap.size w wr)
  case atStart => exact ⟨1, rfl, Nat.le_refl _, hc1, by omega, HG2, hB2⟩
  case round =>
    obtain ⟨n, rfl, hn1, hnc, hng, HG, HB⟩ := hrel
    by_cases hlt : n < c
    · have hlt' : (n : Int) < (c : Int) := by omega
      have hne : ¬ c = n := by omega
      obtain ⟨m, hm⟩ : ∃ m, min n (c - n) = m := ⟨_, rfl⟩
      have hm1 : 1 ≤ m := by omega
      have hm2 : n + m ≤ c := by omega
      obtain ⟨w3, hcp2, HG3, hB3⟩ : ∃ w3, (Builtin.copy_ #[31, 31] 3 #[.slice (some ⟨w.heap.size, n, none⟩) (c - n) (c - n), .slice (some ⟨w.heap.size, 0, none⟩) n c]).run Tryd.prog wr.drew = .ok (goInt m) w3 ∧ Hid (w3.heap[w.heap.size]? = some (.cells (cellsN v (n + m) c).toArray 3 (0, 0))) ∧ Below w.heap.size w w3 := by
        have hg : wr.drew.heap[w.heap.size]? = some (.cells (cellsN v n c).toArray 3 (0, 0)) := HG.out
        have h := run_copy_row Tryd.prog wr.drew 31 31 3 3 w.heap.size n (c - n) (c - n) ⟨w.heap.size, 0, none⟩ n c (cellsN v n c).toArray 3 (List.replicate m (Value.int .i64 v)) Tryd.underlying31 sizeInt hg (by rw [List.length_replicate]; exact hm.symm) (fun j u hj => by
          have hjm : j < m := by simpa using (List.getElem?_eq_some_iff.1 hj).1
          have hu : u = Value.int .i64 v := by rw [List.getElem?_replicate, if_pos hjm] at hj; exact (Option.some.inj hj).symm
          rw [hu, Addr.add_lit]
          have hc := cellsN_get v n c j (by omega)
          simp only [World.cell?, hg, Nat.zero_add]
          rw [List.getElem?_toArray]; exact hc) (by rw [← Array.length_toList, List.length_replicate]; show n + m ≤ (cellsN v n c).length; rw [cellsN_length v n c hnc]; exact hm2) (fun u hu => by rw [List.eq_of_mem_replicate hu]; rfl)
        rw [List.length_replicate] at h
        refine ⟨_, h, ?_, below_setRow HB.drew (Nat.le_refl _) _⟩
        have := cellsN_splice v n m c hm2
        show _ = _
        rw [← this, setRow_heap wr.drew _ _ _ _ _ hg]
        unfold splice
        simp
      clear HG HB hcp
      go_wp2_with fail
      go_region
      go_wp2
      go_roundg (c - (n + m))
      case measure => omega
      case rel => exact ⟨n + m, by simp, by omega, hm2, by omega, HG3, hB3⟩
    · have hlt' : ¬ (n : Int) < (c : Int) := by omega
      obtain rfl : n = c := by omega
      go_wp2
      go_ret
      exact ⟨rfl, by have h := HG.out; rw [cellsN_full] at h; simpa using h, HB⟩
end Go.Proofs.YtiiefhpoomliaaaDoor.XM
