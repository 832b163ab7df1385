/- impl.TreeYield, told: what it yields is the small signs of the tree, from left to right. Under Go's own limit on a builder's length. -/
import Derived.Test.YtpbdlhemnbpkoaaDoorK4
import Derived.Test.YtpbdlhemnbpkoaaDoorXB
import Derived.WalkKit
import Derived.BigCall
namespace Go.Proofs.YtpbdlhemnbpkoaaDoor.XY
open Go Go.RowKit Go.Proofs.YtpbdlhemnbpkoaaDoor.Eng
set_option linter.unusedVariables false
set_option autoImplicit false
set_option maxRecDepth 100000

structure As (p : Prop) : Prop where
  out : p
theorem rzt_form {w : World} {D : Bs} {t : Tr} {vs : List Value} (h : RzT w D t vs) : ∃ s r a n c, vs = [.string s, .int .i64 r, .slice a n c] := by
  cases h; exact ⟨_, _, _, _, _, rfl⟩
theorem yieldEs_append : ∀ (a b : List Tr), yieldEs (a ++ b) = yieldEs a ++ yieldEs b
  | [], b => by simp [yieldEs]
  | t :: a, b => by simp [yieldEs, yieldEs_append a b]
theorem yieldEs_take (l : List Tr) (k : Nat) (h : k < l.length) : yieldEs (l.take (k + 1)) = yieldEs (l.take k) ++ yieldE l[k] := by
  rw [List.take_succ_eq_append_getElem h, yieldEs_append]
  simp [yieldEs]
theorem yieldEs_le (l : List Tr) (k : Nat) : (yieldEs (l.take k)).length ≤ (yieldEs l).length := by
  have := congrArg (fun l => (yieldEs l).length) (List.take_append_drop k l)
  simp only [yieldEs_append, List.length_append] at this
  omega
theorem saneEs_mem : ∀ {l : List Tr}, saneEs l = true → ∀ (i : Nat) (h : i < l.length), saneE l[i] = true
  | t :: l, h, 0, _ => by simp only [saneEs, Bool.and_eq_true] at h; exact h.1
  | t :: l, h, i + 1, hi => by simp only [saneEs, Bool.and_eq_true] at h; exact saneEs_mem h.2 i (by simpa using hi)
theorem isIn_calls (s : ByteArray) (w : World) : Calls Tryd.prog 56 #[.string s, .int .u8 97, .int .u8 100] w fun e w' => e = .returned (.bool (smallE s.data.toList)) ∧ w' = w := by
  have hl : s.size = s.data.toList.length := by rw [Array.length_toList]; rfl
  by_cases h1 : s.size = 1
  · have h0 : 0 < s.size := by omega
    obtain ⟨c, hc⟩ : ∃ c, s.data.toList = [c] := by
      match h : s.data.toList with
      | [c] => exact ⟨c, rfl⟩
      | [] => rw [h, h1] at hl; simp at hl
      | _ :: _ :: _ => rw [h, h1] at hl; simp at hl
    have hx : s[0]'h0 = c := by
      have h6 : s[0]? = s.data[0]? := rfl
      rw [← Array.getElem?_toList, hc] at h6
      have h7 : s[0]? = some (s[0]'h0) := by simp [h0]
      rw [h7] at h6
      simpa using h6
    go_enter Tryd.func56, Tryd.ntmps56
    go_wp2
    · rename_i h
      go_ret
      refine ⟨?_, rfl⟩
      rw [hc]
      have h97 : 97 ≤ c.toNat := by omega
      have e : decide ((c.toNat : Int) ≤ 100) = decide (c.toNat ≤ 100) := by congr 1; exact propext ⟨fun h => by omega, fun h => by omega⟩
      simp only [smallE, h97, decide_true, Bool.true_and, e]; rfl
    · rename_i h
      go_ret
      refine ⟨?_, rfl⟩
      have h97 : ¬ 97 ≤ c.toNat := by omega
      simp [smallE, h97]
  · have hE : smallE s.data.toList = false := by
      match h : s.data.toList with
      | [c] => rw [h] at hl; exact absurd hl h1
      | [] => rfl
      | _ :: _ :: _ => rfl
    clear hl
    go_enter Tryd.func56, Tryd.ntmps56
    go_wp2
    go_ret
    exact ⟨by rw [hE]; rfl, rfl⟩
theorem small_calls (s : ByteArray) (w : World) : Calls Tryd.prog 27 #[.string s] w fun e w' => e = .returned (.bool (smallE s.data.toList)) ∧ w' = w := by
  go_enter Tryd.func27, Tryd.ntmps27
  go_wp2_with (go_at_call 56; refine (isIn_calls s _).mono ?_)
  rintro e w1 ⟨rfl, rfl⟩
  go_wp2
  go_ret
  exact ⟨rfl, rfl⟩
/-- A builder stays while other blocks come and turn. -/
theorem builder_kept {T e : TypeId} {B b : Nat} {bs : List Value} {w w' : World} (h : Lib.IsBuilder T e B b bs w) (hg : w.grownBy w' none) : Lib.IsBuilder T e B b bs w' := by
  have one : ∀ p, Lib.BuilderAt T e B b p bs w → Lib.BuilderAt T e B b p bs w' := by
    rintro p ⟨h1, v, h2, h3, h4⟩
    have hlt : b < w.heap.size := by
      rcases Nat.lt_or_ge b w.heap.size with h' | h'
      · exact h'
      · simp [Array.getElem?_eq_none h'] at h2
    exact ⟨h1, v, (hg.block b hlt (by simp)).trans h2, h3.kept hg (by cases v.ownBlock <;> simp), h4⟩
  exact h.imp (one _) (one _)
theorem builder_lt {T e : TypeId} {B b : Nat} {bs : List Value} {w : World} (h : Lib.IsBuilder T e B b bs w) : b < w.heap.size := by
  rcases h with h | h <;> exact h.lt
set_option maxHeartbeats 2000000 in
theorem yield_calls {w0 : World} {D : Bs} (t : Tr) (vs : List Value) (hr : RzT w0 D t vs) : saneE t = true → ∀ (B b : Nat) (w : World), (∀ x, D x → x < B) → Same D w0 w → ∀ (acc : List UInt8), Lib.IsBuilder 67 5 B b (Lib.byteCells acc) w →
    acc.length + (yieldE t).length ≤ 140737488355328 → B ≤ w.heap.size →
    Calls Tryd.prog 51 #[.agg vs.toArray, .pointer (some ⟨b, 0, none⟩)] w fun e w' => e = .returned (.tuple #[]) ∧ (Lib.IsBuilder 67 5 B b (Lib.byteCells (acc ++ yieldE t)) w' ∧ Below B w w') := by
  induction hr with
  | mk s r kids a cap f hcap hrow hk ih =>
  intro hsane B b w hD hsame acc hb hlen hBw
  simp only [saneE, Bool.and_eq_true, decide_eq_true_eq] at hsane
  have hu := Tryd.underlying47
  cases hs : smallE s.data.toList with
  | true =>
    have hy : yieldE ⟨s.data.toList, r, kids⟩ = s.data.toList := by simp only [yieldE, hs]
    go_enter Tryd.func51, Tryd.ntmps51
    go_wp2_with (first | (go_at_call 27; refine (small_calls s _).mono ?_))
    rintro e w1 ⟨rfl, rfl⟩
    have hsz : w.heap.size ≤ (w.alloc (Obj.cells #[Value.string s, Value.int IntKind.i64 r, Value.slice a kids.length cap] 47)).heap.size := by simp
    have hb2 := builder_kept hb (World.grownBy_alloc w (Obj.cells #[Value.string s, Value.int IntKind.i64 r, Value.slice a kids.length cap] 47) none)
    rw [hs]
    go_wp2_with (first | (go_at_call 80; refine (write_calls B b _ s _ hb2 (by rw [Lib.byteCells_length, ← show s.data.toList.length = s.size from rfl]; rw [hy] at hlen; exact hlen) (by omega)).mono ?_))
    rintro e w2 ⟨rfl, h1, b1⟩
    go_wp2
    (try simp only [Exit.inBlock, Exit.then])
    refine bodyPost_ret (results_none rfl _ _ _) rfl ?_
    refine ⟨rfl, ?_, ((Below.refl B w).alloc hBw _).trans b1⟩
    rw [hy, Lib.byteCells_append]
    exact .inr h1
  | false =>
    have hy : yieldE ⟨s.data.toList, r, kids⟩ = yieldEs kids := by simp only [yieldE, hs]
    rw [hy] at hlen ⊢
    go_enter Tryd.func51, Tryd.ntmps51
    go_wp2_with (first | (go_at_call 27; refine (small_calls s _).mono ?_))
    rintro e w1 ⟨rfl, rfl⟩
    have hb2 := builder_kept hb (World.grownBy_alloc w (Obj.cells #[Value.string s, Value.int IntKind.i64 r, Value.slice a kids.length cap] 47) none)
    have bl : Below B w (w.alloc (Obj.cells #[Value.string s, Value.int IntKind.i64 r, Value.slice a kids.length cap] 47)) := (Below.refl B w).alloc hBw _
    rw [hs]
    go_wp2
    go_loopw [16] (fun v16 wr => ∃ k : Nat, k ≤ kids.length ∧ v16 = .int .i64 k ∧ As (Lib.IsBuilder 67 5 B b (Lib.byteCells (acc ++ yieldEs (kids.take k))) wr) ∧ As (Below B w wr)) (fun v16 _ => kids.length - (intOf v16).toNat)
    case atStart => exact ⟨0, by omega, by rfl, ⟨by simpa [yieldEs] using hb2⟩, ⟨bl⟩⟩
    case round =>
      obtain ⟨k, hk2, rfl, HI, HB⟩ := hrel
      have HBr : As (B ≤ wr.heap.size) := ⟨Nat.le_trans hBw HB.out.size⟩
      by_cases hlt : k < kids.length
      · obtain ⟨kb, off, rfl, hkb, hcell⟩ := hrow (by omega)
        obtain ⟨h3, hc⟩ := hcell k hlt
        obtain ⟨s', r', a', n', cap', hu3⟩ := rzt_form (hk k hlt)
        have hsw : ∀ j, wr.cell? ⟨kb, j, none⟩ = w0.cell? ⟨kb, j, none⟩ := fun j => by
          rw [cell?_same (HB.out.block kb (hD kb hkb)), cell?_same (hsame kb hkb)]
        have c0 : wr.cell? ⟨kb, off + k * 3, none⟩ = some (.string s') := by rw [hsw]; have := hc 0 (by omega); rw [hu3] at this; simpa using this
        have c1 : wr.cell? ⟨kb, off + k * 3 + 1, none⟩ = some (.int .i64 r') := by rw [hsw]; have := hc 1 (by omega); rw [hu3] at this; simpa using this
        have c2 : wr.cell? ⟨kb, off + k * 3 + 2, none⟩ = some (.slice a' n' cap') := by rw [hsw]; have := hc 2 (by omega); rw [hu3] at this; simpa using this
        clear hc hcell hsw
        have ihk := ih k hlt (saneEs_mem hsane.2 k hlt)
        have h40 := hsane.1
        rw [hu3] at ihk
        go_wp2_with (go_at_call 51; refine (ihk B b _ hD ?g1 (acc ++ yieldEs (kids.take k)) ?g2 ?g3 ?g4).mono ?_)
        case g1 => exact fun x hx => (heap_alloc_lt wr _ (Nat.lt_of_lt_of_le (hD x hx) HBr.out)).trans ((HB.out.block x (hD x hx)).trans (hsame x hx))
        case g2 => exact builder_kept HI.out (World.grownBy_alloc wr _ none)
        case g3 =>
          have h1 := yieldEs_le kids (k + 1)
          rw [yieldEs_take kids k hlt, List.length_append] at h1
          rw [List.length_append]; omega
        case g4 => have := HBr.out; simp; omega
        rintro e w3 ⟨rfl, h1, b1⟩
        rw [List.append_assoc, ← yieldEs_take kids k hlt] at h1
        have HI2 := As.mk h1
        have HL := As.mk hlt
        have HB2 := As.mk ((HB.out.alloc HBr.out _).trans b1)
        clear h1 b1
        go_wp2
        go_roundw
        case rel => exact ⟨k + 1, HL.out, by go_num, HI2, HB2⟩
        case measure => have := HL.out; simp [intOf]; omega
      · go_wp2
        go_end0
        have : k = kids.length := by omega
        subst this
        have hI := HI.out
        rw [List.take_length] at hI
        exact ⟨rfl, hI, HB.out⟩
/-- The whole. -/
theorem treeYield_calls {D : Bs} (t : Tr) (vs : List Value) (w : World) (hr : RzT w D t vs) (hsane : saneE t = true) (hD : ∀ x, D x → x < w.heap.size) (hlen : (yieldE t).length ≤ 140737488355328) :
    Calls Tryd.prog 24 #[.agg vs.toArray] w fun e w' => e = .returned (.string ⟨(yieldE t).toArray⟩) ∧ Below w.heap.size w w' := by
  obtain ⟨s, r, a, n, cap, rfl⟩ := rzt_form hr
  have hu := Tryd.underlying47
  go_enter Tryd.func24, Tryd.ntmps24
  go_wp2_with (first | (go_at_call 51; refine (yield_calls t _ hr hsane (w.heap.size + 1) _ _ (fun x hx => Nat.lt_succ_of_lt (hD x hx)) ?g1 [] ?g2 ?g3 ?g4).mono ?_))
  case g1 => exact fun x hx => (heap_alloc_lt _ _ (by have := hD x hx; simp; omega)).trans (heap_alloc_lt _ _ (hD x hx))
  case g2 =>
    have := Lib.fresh_isBuilder 67 5 (w.alloc (Obj.cells #[Value.string s, Value.int IntKind.i64 r, Value.slice a n cap] 47))
    have e : Lib.byteCells [] = [] := rfl
    rw [e]; simpa using this
  case g3 => simpa using hlen
  case g4 => simp
  rintro e w1 ⟨rfl, h1, b1⟩
  have h1 := h1
  rw [List.nil_append] at h1
  have hsz : w.heap.size + 1 ≤ w1.heap.size := Nat.le_trans (by simp) b1.size
  have bl : Below w.heap.size w w1 := ((((Below.refl w.heap.size w).alloc (Nat.le_refl _) _).alloc (by simp) _).trans (b1.mono (by omega)))
  go_wp2_with (first | (go_at_call 52; refine (Tryd.Builder_String_any (w.heap.size + 1) (w.heap.size + 1) (yieldE t) _ h1 hsz).mono ?_))
  rintro e w2 ⟨rfl, b2⟩
  go_wp2
  go_ret
  exact ⟨rfl, bl.trans (b2.mono (by omega))⟩
end Go.Proofs.YtpbdlhemnbpkoaaDoor.XY
