/- impl.backward, told: a text told back. -/
import Derived.Test.YtopcbklojbngdaaDoorK4
import Derived.Test.YtopcbklojbngdaaDoorRv
import Derived.WalkKit
import Derived.BigCall
import Derived.Lib.OwnBridge
namespace Go.Proofs.YtopcbklojbngdaaDoor.XR
open Go Go.RowKit Go.Shelf Go.Lib Go.Sort Go.Proofs.YtopcbklojbngdaaDoor.Eng
set_option linter.unusedVariables false
set_option autoImplicit false
set_option maxRecDepth 100000
structure As (p : Prop) : Prop where
  out : p
abbrev encB : Int → Value := Value.int .u8
theorem back_string (w : World) (blk cap : Nat) (zs : List Int) (h : Holds encB w blk 0 zs.toArray) : (convert 22 9 (.slice (some ⟨blk, 0, none⟩) zs.length cap)).run Tryd.prog w = .ok (.string ⟨(ofBytes zs).toArray⟩) w := by
  rw [run_convert_bytes_string w _ _ 5 _ _ cap Tryd.underlying22 Tryd.underlying5 Tryd.underlying9]
  have hl := run_loadCells_list (P := Tryd.prog) w ⟨blk, 0, none⟩ (zs.map (Value.int .u8)) (fun j v hj => by
    have hj' : j < zs.length := by
      have := (List.getElem?_eq_some_iff.1 hj).1
      simpa using this
    have := (h j (by simpa using hj')).1
    rw [List.getElem?_map, List.getElem?_eq_getElem hj'] at hj
    have hv : v = encB zs[j] := (Option.some.inj hj).symm
    rw [hv]
    rw [Addr.add_lit, this]
    simp [getElem!_pos, hj'])
  rw [List.length_map] at hl
  have := run_bytesToString (P := Tryd.prog) w ⟨blk, 0, none⟩ zs.length cap zs hl
  rw [this]
  have e : zs.foldl (fun r n => r.push (UInt8.ofNat n.toNat)) ByteArray.empty = ⟨(ofBytes zs).toArray⟩ := by
    have := foldl_push zs ByteArray.empty
    have h2 : (zs.foldl (fun r n => r.push (UInt8.ofNat n.toNat)) ByteArray.empty).data = (ofBytes zs).toArray := Array.ext' (by simpa using this)
    exact ByteArray.ext h2
  rw [e]
theorem ofBytes_toBytes (s : List UInt8) : ofBytes (toBytes s) = s := by
  induction s with
  | nil => rfl
  | cons x s ih =>
    show UInt8.ofNat ((x.toNat : Int).toNat) :: ofBytes (toBytes s) = _
    rw [ih, Int.toNat_natCast]
    simp
theorem backward_calls (s : ByteArray) (w : World) (hs : s.size ≤ 140737488355328) :
    Calls Tryd.prog 29 #[.string s] w fun e w' => e = .returned (.string ⟨s.data.toList.reverse.toArray⟩) ∧ Below w.heap.size w w' := by
  have hc := run_bytes_of_string (P := Tryd.prog) w 9 22 5 s Tryd.underlying9 Tryd.underlying22 Tryd.underlying5
  have hz : (toBytes s.data.toList).length = s.size := by simp [toBytes]
  generalize hw1 : w.drew.alloc (.cells (bytesRow s (grownCap w s.size 0 5)) 5 ((bytesRow s (grownCap w s.size 0 5)).size, (bytesRow s (grownCap w s.size 0 5)).size + 1)) = w1 at hc
  generalize grownCap w s.size 0 5 = cap at hc hw1
  have hsz : ∀ j, j < s.size → (bytesRow s cap)[j]? = some (encB ((toBytes s.data.toList).toArray)[j]!) := fun j hj => by
    have hj2 : j < s.data.size := hj
    unfold bytesRow
    rw [Array.getElem?_append_left (by simpa using hj2), Array.getElem?_map]
    have e : s.data[j]? = some s.data[j] := Array.getElem?_eq_getElem hj2
    simp [toBytes, e]
  have hge : s.size ≤ (bytesRow s cap).size := by unfold bytesRow; simp
  have hH : Holds encB w1 w.heap.size 0 (toBytes s.data.toList).toArray := fun j hj => by
    have hj : j < s.size := by rw [← hz]; simpa using hj
    have hnew : w1.heap[w.heap.size]? = some (.cells (bytesRow s cap) 5 ((bytesRow s cap).size, (bytesRow s cap).size + 1)) := by rw [← hw1]; exact heap_alloc_new w.drew _
    refine ⟨?_, ?_⟩
    · simp only [World.cell?, hnew, Nat.zero_add]
      rw [hsz j hj]; rfl
    · simp only [World.frozen?, hnew, Nat.zero_add]
      rw [decide_eq_false (by omega)]; rfl
  have hb : Below w.heap.size w w1 := by rw [← hw1]; exact ((Below.refl w.heap.size w).drew).alloc (Nat.le_refl _) _
  have R := AnyE.slices_Reverse Tryd.lays35 encB (fun _ => rfl) w.heap.size 0 cap (toBytes s.data.toList) w1 hH (by rw [hz]; omega)
  rw [hz] at R
  have A1 := As.mk hH
  have A2 := As.mk hb
  clear hH hb hw1 hsz hge
  go_enter Tryd.func29, Tryd.ntmps29
  go_wp2_with (first | (go_at_call 49; refine R.mono ?_))
  rintro e w2 ⟨rfl, n, hw2⟩
  have H2 : Holds encB w2 w.heap.size 0 (toBytes s.data.toList).reverse.toArray := by
    rw [hw2]; exact holds_putRow encB _ _ _ _ _ (holds_ahead encB _ n _ _ _ A1.out) (by simp)
  have hr := back_string w2 w.heap.size cap (toBytes s.data.toList).reverse H2
  rw [List.length_reverse, hz] at hr
  have B2 : As (Below w.heap.size w w2) := ⟨by rw [hw2]; exact Lib.below_putRow A2.out (Nat.le_refl _)⟩
  clear hw2 H2 R hc
  go_wp2
  go_ret
  refine ⟨?_, B2.out⟩
  have e : ofBytes (toBytes s.data.toList).reverse = s.data.toList.reverse := by
    rw [show ofBytes (toBytes s.data.toList).reverse = (ofBytes (toBytes s.data.toList)).reverse from List.map_reverse, ofBytes_toBytes]
  rw [e]
  rfl
end Go.Proofs.YtopcbklojbngdaaDoor.XR
