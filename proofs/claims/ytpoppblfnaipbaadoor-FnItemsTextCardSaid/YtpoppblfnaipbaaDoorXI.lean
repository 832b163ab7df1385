/- impl.ItemsText, told: a line for each item; nothing, where the items are not ok. -/
import Derived.Test.YtpoppblfnaipbaaDoorK4
import Derived.Test.YtpoppblfnaipbaaDoorXB
import Derived.WalkKit
import Derived.BigCall
import Derived.Deep.LoopGhost
import Derived.StillTailTactics
namespace Go.Proofs.YtpoppblfnaipbaaDoor.XI
open Go Go.RowKit Go.Proofs.YtpoppblfnaipbaaDoor.Eng
set_option linter.unusedVariables false
set_option autoImplicit false
set_option maxRecDepth 100000
structure As (p : Prop) : Prop where
  out : p
/-- A rule in memory. -/
theorem rule_at {w : World} {D : Bs} {rs : List (List UInt8 × List UInt8)} {z : Value} (h : Rz w D (.sl (.pair .str .str)) rs [z]) {i : Nat} (hi : i < rs.length) :
    ∃ b off cap lb rb, z = .slice (some ⟨b, off, none⟩) rs.length cap ∧ D b ∧ lb.data.toList = (rs.getD i ([], [])).1 ∧ rb.data.toList = (rs.getD i ([], [])).2 ∧ w.cell? ⟨b, off + i * 2, none⟩ = some (.string lb) ∧ w.cell? ⟨b, off + i * 2 + 1, none⟩ = some (.string rb) := by
  obtain ⟨a, cap, e, hc, hrow⟩ := (Rz.sl rfl).1 h
  obtain ⟨b, off, rfl, hb, hall⟩ := hrow (Nat.lt_of_le_of_lt (Nat.zero_le _) hi)
  obtain ⟨us, hl, hr, hcell⟩ := hall i hi
  obtain ⟨u, v, rfl, ⟨lb, e1, rfl⟩, ⟨rb, e2, rfl⟩⟩ := hr
  have c0 := hcell 0 (by decide)
  have c1 := hcell 1 (by decide)
  exact ⟨b, off, cap, lb, rb, by simpa using e, hb, e1, e2, by simpa [Ty.size] using c0, by simpa [Ty.size] using c1⟩
/-- An item in memory. -/
theorem item_at {w : World} {D : Bs} {l : List (Int × Int × List UInt8)} {z : Value} (h : Rz w D (.sl (.pair (.int .i64) (.pair (.int .i64) .str))) l [z]) {i : Nat} (hi : i < l.length) :
    ∃ b off cap ab, z = .slice (some ⟨b, off, none⟩) l.length cap ∧ D b ∧ ab.data.toList = (l.getD i (0, 0, [])).2.2 ∧ w.cell? ⟨b, off + i * 3, none⟩ = some (.int .i64 (l.getD i (0, 0, [])).1) ∧ w.cell? ⟨b, off + i * 3 + 1, none⟩ = some (.int .i64 (l.getD i (0, 0, [])).2.1) ∧ w.cell? ⟨b, off + i * 3 + 2, none⟩ = some (.string ab) := by
  obtain ⟨a, cap, e, hc, hrow⟩ := (Rz.sl rfl).1 h
  obtain ⟨b, off, rfl, hb, hall⟩ := hrow (Nat.lt_of_le_of_lt (Nat.zero_le _) hi)
  obtain ⟨us, hl, hr, hcell⟩ := hall i hi
  obtain ⟨u, v, rfl, e1, u2, v2, rfl, e2, ⟨ab, e3, rfl⟩⟩ := hr
  have e1 : u = _ := e1
  have e2 : u2 = _ := e2
  subst e1 e2
  have c0 := hcell 0 (by decide)
  have c1 := hcell 1 (by decide)
  have c2 := hcell 2 (by decide)
  refine ⟨b, off, cap, ab, by simpa using e, hb, e3, ?_, ?_, by simpa [Ty.size] using c2⟩
  · show w.cell? _ = some (Value.int .i64 (rd (t := .pair (.int .i64) (.pair (.int .i64) .str)) l i).1)
    simpa [Ty.size] using c0
  · show w.cell? _ = some (Value.int .i64 (rd (t := .pair (.int .i64) (.pair (.int .i64) .str)) l i).2.1)
    simpa [Ty.size] using c1
theorem head_of {w : World} {D : Bs} {t : Ty} (ht : t.isEnt = false) {xs : List t.den} {z : Value} (h : Rz w D (.sl t) xs [z]) : ∃ a cap, z = .slice a (List.length xs) cap := by
  obtain ⟨a, cap, e, _⟩ := (Rz.sl ht).1 h
  exact ⟨a, cap, by simpa using e⟩
/-- What rightOf answers. -/
structure RightR (s : List UInt8) (rs : List (List UInt8 × List UInt8)) (r : Int) (w : World) (e : Ending) (w' : World) : Prop where
  ex : ∃ rb : ByteArray, e = .returned (.string rb) ∧ rb.data.toList = rightE s rs r
  bel : Below w.heap.size w w'
set_option maxHeartbeats 1000000 in
theorem right_calls {w : World} {D : Bs} {s : List UInt8} {rs : List (List UInt8 × List UInt8)} {sb : ByteArray} {a : Option Addr} {n cap : Nat} (hs : sb.data.toList = s) (hr : Rz w D (.sl (.pair .str .str)) rs [.slice a n cap]) (hD : ∀ x, D x → x < w.heap.size) (r : Int) (hlt : r < (rs.length : Int)) :
    Calls Tryd.prog 35 #[.agg #[.string sb, .slice a n cap], .int .i64 r] w fun e w' => RightR s rs r w e w' := by
  have hu := Tryd.underlying25
  by_cases h0 : r < 0
  · go_enter Tryd.func35, Tryd.ntmps35
    go_wp2
    go_ret
    exact ⟨⟨sb, rfl, by simp [rightE, h0, hs]⟩, (Below.refl _ w).alloc (Nat.le_refl _) _⟩
  · obtain ⟨i, rfl⟩ : ∃ i : Nat, r = i := ⟨r.toNat, by omega⟩
    have hi : i < rs.length := by omega
    obtain ⟨b, off, cap', lb, rb, e, hb, e1, e2, c0, c1⟩ := rule_at hr hi
    have e : a = some ⟨b, off, none⟩ ∧ n = rs.length ∧ cap = cap' := by simpa using e
    obtain ⟨rfl, rfl, rfl⟩ := e
    have hbl := hD b hb
    have hlt' : (i : Int) < (rs.length : Int) := hlt
    have E2 := As.mk e2
    have HX := As.mk hr
    clear hr e1 e2 c0
    generalize hN : rs.length = N at *
    go_enter Tryd.func35, Tryd.ntmps35
    go_wp2
    go_ret
    refine ⟨⟨rb, rfl, ?_⟩, (Below.refl _ w).alloc (Nat.le_refl _) _⟩
    rw [E2.out, rightE, if_neg (by omega), Int.toNat_natCast]
theorem ext_front (b : ByteArray) (n : Nat) : (b.extract 0 n).data.toList = b.data.toList.take n := by
  rw [ByteArray.data_extract]; simp
theorem ext_back (b : ByteArray) (n : Nat) : (b.extract n b.size).data.toList = b.data.toList.drop n := by
  have e : b.size = b.data.toList.length := by rw [Array.length_toList]; rfl
  rw [ByteArray.data_extract, Array.toList_extract, List.extract, e]
  exact List.take_of_length_le (by rw [List.length_drop]; exact Nat.le_refl _)
theorem linesE_append (s : List UInt8) (rs : List (List UInt8 × List UInt8)) : ∀ (a b : List (Int × Int × List UInt8)), linesE s rs (a ++ b) = linesE s rs a ++ linesE s rs b
  | [], b => by simp [linesE]
  | x :: a, b => by simp [linesE, linesE_append s rs a b]
theorem linesE_take (s : List UInt8) (rs : List (List UInt8 × List UInt8)) (l : List (Int × Int × List UInt8)) (k : Nat) (h : k < l.length) : linesE s rs (l.take (k + 1)) = linesE s rs (l.take k) ++ lineE s rs (l.getD k (0, 0, [])) := by
  have e : l.getD k (0, 0, []) = l[k] := by simp [List.getD, h]
  rw [List.take_succ_eq_append_getElem h, linesE_append, e]
  simp [linesE]
theorem linesE_le (s : List UInt8) (rs : List (List UInt8 × List UInt8)) (l : List (Int × Int × List UInt8)) (k : Nat) : (linesE s rs (l.take k)).length ≤ (linesE s rs l).length := by
  have := congrArg (fun l => (linesE s rs l).length) (List.take_append_drop k l)
  simp only [linesE_append, List.length_append] at this
  omega
theorem linesE_ge (s : List UInt8) (rs : List (List UInt8 × List UInt8)) : ∀ (l : List (Int × Int × List UInt8)), l.length ≤ (linesE s rs l).length
  | [] => Nat.le_refl _
  | x :: l => by
    have := linesE_ge s rs l
    simp only [linesE, lineE, List.length_append, List.length_cons, List.length_nil]; omega
/-- What String answers. -/
structure StrR (l : List UInt8) (B : Nat) (w : World) (e : Ending) (w' : World) : Prop where
  ex : e = .returned (.string ⟨l.toArray⟩)
  bel : Below B w w'
def itemsE : Bool → List UInt8 → List (List UInt8 × List UInt8) → List (Int × Int × List UInt8) → List UInt8
  | true, s, rs, l => linesE s rs l | false, _, _, _ => []
theorem getD_mem' (l : List (Int × Int × List UInt8)) (i : Nat) (h : i < l.length) : l.getD i (0, 0, []) ∈ l := by
  have e : l.getD i (0, 0, []) = l[i] := by simp [List.getD, h]
  rw [e]; exact List.getElem_mem h
/-- A builder stays while what was there stays. -/
theorem builder_below {T e : TypeId} {B b : Nat} {bs : List Value} {w w' : World} (h : Lib.IsBuilder T e B b bs w) (hb : Below w.heap.size w w') : Lib.IsBuilder T e B b bs w' := by
  have one : ∀ p, Lib.BuilderAt T e B b p bs w → Lib.BuilderAt T e B b p bs w' := by
    rintro p ⟨h1, v, h2, h3, h4⟩
    have hlt : b < w.heap.size := by
      rcases Nat.lt_or_ge b w.heap.size with h' | h'
      · exact h'
      · simp [Array.getElem?_eq_none h'] at h2
    have hg : w.grownBy w' none := ⟨hb.os, hb.tape, hb.output, hb.size, fun i hi _ => hb.block i hi⟩
    exact ⟨h1, v, (hb.block b hlt).trans h2, h3.kept hg (by cases v.ownBlock <;> simp), h4⟩
  exact h.imp (one _) (one _)
set_option maxHeartbeats 4000000 in
theorem items_calls {w0 : World} {D : Bs} {s : List UInt8} {rs : List (List UInt8 × List UInt8)} {l : List (Int × Int × List UInt8)} {sb : ByteArray} {ar al : Option Addr} {nr cr nl cl : Nat} (hs : sb.data.toList = s)
    (hr : Rz w0 D (.sl (.pair .str .str)) rs [.slice ar nr cr]) (hl : Rz w0 D (.sl (.pair (.int .i64) (.pair (.int .i64) .str))) l [.slice al nl cl]) (hD : ∀ x, D x → x < w0.heap.size) (b : Bool)
    (hOk : ∀ w, Below w0.heap.size w0 w → Calls Tryd.prog 18 #[.agg #[.string sb, .slice ar nr cr], .slice al nl cl] w fun e w' => e = .returned (.bool b) ∧ Below w.heap.size w w')
    (hfit : b = true → allFitE s rs l = true ∧ (linesE s rs l).length ≤ 140737488355328) :
    Calls Tryd.prog 15 #[.agg #[.string sb, .slice ar nr cr], .slice al nl cl] w0 fun e w' => e = .returned (.string ⟨(itemsE b s rs l).toArray⟩) ∧ Below w0.heap.size w0 w' := by
  have hu := Tryd.underlying25
  have hu2 := Tryd.underlying61
  have B1 : ∀ o : Obj, Below w0.heap.size w0 (w0.alloc o) := fun o => (Below.refl _ w0).alloc (Nat.le_refl _) _
  have HR := As.mk hr
  have HL := As.mk hl
  have HD := As.mk hD
  have HF := As.mk hfit
  clear hr hl hD hfit
  cases b with
  | false =>
    go_enter Tryd.func15, Tryd.ntmps15
    go_wp2_with (first | (go_at_call 18; refine (hOk _ (B1 _)).mono ?_))
    rintro e w1 ⟨rfl, b1⟩
    go_wp2
    go_ret
    exact ⟨rfl, (B1 _).trans (b1.mono (by simp))⟩
  | true =>
    obtain ⟨hfit, hlen⟩ := HF.out rfl
    clear HF
    have HF := As.mk hfit
    have HN := As.mk hlen
    clear hfit hlen
    go_enter Tryd.func15, Tryd.ntmps15
    go_wp2_with (first | (go_at_call 18; refine (hOk _ (B1 _)).mono ?_))
    rintro e w1 ⟨rfl, b1⟩
    have cg : As (w1.heap[w0.heap.size]? = some (Obj.cells #[Value.string sb, Value.slice ar nr cr] 25 (0, 0))) := ⟨(b1.block _ (by simp)).trans (heap_alloc_new w0 _)⟩
    have hB1 : As (Below w0.heap.size w0 w1) := ⟨(B1 _).trans (b1.mono (by simp))⟩
    have hsz : As (w0.heap.size < w1.heap.size) := ⟨Nat.lt_of_lt_of_le (by simp) b1.size⟩
    clear b1 hOk B1
    obtain ⟨_, _, hsl⟩ := head_of rfl HL.out
    obtain rfl : nl = List.length l := by simpa using (Value.slice.inj hsl).2.1
    clear hsl
    have hl47 : l.length ≤ 140737488355328 := Nat.le_trans (linesE_ge s rs l) HN.out
    have I0 : As (Lib.IsBuilder 59 5 w1.heap.size w1.heap.size (Lib.byteCells (linesE s rs (l.take 0))) (w1.alloc (.cells #[.pointer none, .slice none 0 0] 59))) := ⟨Lib.fresh_isBuilder 59 5 w1⟩
    have Bl0 : As (Below w1.heap.size w1 (w1.alloc (.cells #[.pointer none, .slice none 0 0] 59))) := ⟨(Below.refl _ w1).alloc (Nat.le_refl _) _⟩
    go_wp2
    go_loopg [16] l.length (fun g s16 wr => ∃ k : Nat, s16 = .int .i64 (k : Int) ∧ k ≤ l.length ∧ l.length ≤ k + g ∧ As (Lib.IsBuilder 59 5 w1.heap.size w1.heap.size (Lib.byteCells (linesE s rs (l.take k))) wr) ∧ As (Below w1.heap.size w1 wr))
    case atStart => exact ⟨0, rfl, by omega, by omega, I0, Bl0⟩
    case round =>
      obtain ⟨k, rfl, hk, hg, HI, HB⟩ := hrel
      by_cases hlt : k < l.length
      · have hlt' : (k : Int) < (l.length : Int) := by omega
        obtain ⟨lb, lo, cap', ab, e, hDl, hab, i0, i1, i2⟩ := item_at HL.out (i := k) hlt
        have e : al = some ⟨lb, lo, none⟩ ∧ cl = cap' := by simpa using e
        obtain ⟨rfl, rfl⟩ := e
        have hBr : Below w0.heap.size w0 wr := hB1.out.trans (HB.out.mono (Nat.le_of_lt hsz.out))
        have hbl := HD.out lb hDl
        rw [← hBr.cell hbl] at i0 i1 i2
        have g0 : wr.cell? ⟨w0.heap.size, 0, none⟩ = some (.string sb) := by
          have := (HB.out.block _ hsz.out).trans cg.out
          simp [World.cell?, this]
        have g1 : wr.cell? ⟨w0.heap.size, 1, none⟩ = some (.slice ar nr cr) := by
          have := (HB.out.block _ hsz.out).trans cg.out
          simp [World.cell?, this]
        have hgl : w0.heap.size < wr.heap.size := Nat.lt_of_lt_of_le hsz.out HB.out.size
        have hll : lb < wr.heap.size := Nat.lt_trans hbl hgl
        have hBR := As.mk hBr
        have hXB := As.mk hab
        have hfx := List.all_eq_true.1 HF.out _ (getD_mem' l k hlt)
        generalize hx : l.getD k (0, 0, []) = x at i0 i1 hab hXB hfx
        obtain ⟨r, d, av⟩ := x
        simp only [fitE, Bool.and_eq_true, decide_eq_true_eq] at hfx
        obtain ⟨⟨⟨⟨⟨f1, f2⟩, f3⟩, f4⟩, f5⟩, f6⟩ := hfx
        obtain ⟨d, rfl⟩ : ∃ m : Nat, d = m := ⟨d.toNat, by omega⟩
        have HXX := As.mk hx
        have F3 := As.mk f3
        have F456 := As.mk (And.intro f4 (And.intro f5 f6))
        have ab0 : ab.data.toList = av := hXB.out
        have habs : ab.size ≤ 1000000 := by
          have : ab.size = ab.data.toList.length := by rw [Array.length_toList]; rfl
          rw [this, ab0]; exact f6
        have HAB := As.mk ab0
        clear hBr hab hx f3 f4 f5 f6 ab0 hXB
        have hRr : Rz (wr.alloc (Obj.cells #[Value.int IntKind.i64 r, Value.int IntKind.i64 (d : Int), Value.string ab] 61)) D (.sl (.pair .str .str)) rs [.slice ar nr cr] :=
          Rz.mono (fun _ h => h) (fun y hy => (heap_alloc_lt wr _ (Nat.lt_trans (HD.out y hy) hgl)).trans (hBR.out.block y (HD.out y hy))) _ _ _ HR.out
        have hcallR := right_calls (D := D) (s := s) hs hRr (fun y hy => by have := HD.out y hy; simp; omega) r f1
        clear hRr
        go_wp2_with (first | (go_at_call 35; refine hcallR.mono ?_))
        rintro e w2 ⟨⟨rb, rfl, hrb⟩, b2⟩
        have hbox : w2.heap[wr.heap.size]? = some (Obj.cells #[Value.int IntKind.i64 r, Value.int IntKind.i64 (d : Int), Value.string ab] 61 (0, 0)) := (b2.block _ (by simp)).trans (heap_alloc_new wr _)
        have d0 : w2.cell? ⟨wr.heap.size, 0, none⟩ = some (.int .i64 r) := by simp [World.cell?, hbox]
        have d1 : w2.cell? ⟨wr.heap.size, 1, none⟩ = some (.int .i64 (d : Int)) := by simp [World.cell?, hbox]
        have d2 : w2.cell? ⟨wr.heap.size, 2, none⟩ = some (.string ab) := by simp [World.cell?, hbox]
        have hrs : rb.size = (rightE s rs r).length := by
          have : rb.size = rb.data.toList.length := by rw [Array.length_toList]; rfl
          rw [this, hrb]
        have hdr : d ≤ rb.size := by have := F3.out; omega
        have hrbs : rb.size ≤ 1000000 := by have := F456.out.2.1; omega
        have hdr' : (d : Int) ≤ (rb.size : Int) := by omega
        have hwb : Below wr.heap.size wr w2 := ((Below.refl _ wr).alloc (Nat.le_refl _) _).trans (b2.mono (by simp))
        have hHRB := As.mk hrb
        have hHI2 := As.mk (builder_below HI.out hwb)
        have hB2 := As.mk (HB.out.trans (hwb.mono HB.out.size))
        have q0 : w2.cell? ⟨w0.heap.size, 0, none⟩ = some (.string sb) := (hwb.cell hgl).trans g0
        have q1 : w2.cell? ⟨w0.heap.size, 1, none⟩ = some (.slice ar nr cr) := (hwb.cell hgl).trans g1
        have HWB := As.mk hwb
        clear b2 hbox hwb hcallR hrs hrb i0 i1 i2 g0 g1
        by_cases h0 : r < 0
        · have h0' : ¬ (0 : Int) ≤ r := by omega
          have z0 : (9223372036854775807 < 2 + d) = False := eq_false (by omega)
          have z1 : (9223372036854775807 < 2 + d + 1) = False := eq_false (by omega)
          have z2 : (9223372036854775807 < 2 + d + 1 + (rb.size - d)) = False := eq_false (by omega)
          have z3 : (9223372036854775807 < 2 + d + 1 + (rb.size - d) + 1) = False := eq_false (by omega)
          have z4 : (9223372036854775807 < 2 + d + 1 + (rb.size - d) + 1 + ab.size) = False := eq_false (by omega)
          have z5 : (9223372036854775807 < 2 + d + 1 + (rb.size - d) + 1 + ab.size + 1) = False := eq_false (by omega)
          have hline : ((⟨#[46]⟩ : ByteArray) ++ (⟨#[62]⟩ : ByteArray) ++ rb.extract 0 d ++ (⟨#[46]⟩ : ByteArray) ++ rb.extract d rb.size ++ (⟨#[32]⟩ : ByteArray) ++ ab ++ (⟨#[10]⟩ : ByteArray)).data.toList = lineE s rs (r, (d : Int), av) := by
            simp only [lineE, ByteArray.data_append, Array.toList_append, ext_front, ext_back, hHRB.out, HAB.out, Int.toNat_natCast]
            rw [leftE, if_neg (by omega)]
          have HLN := As.mk hline
          clear hline
          go_wp2_with fail
          go_still_tail 18, (by kernel_rfl)
          change wpList _ _ _ _ _ w2.drew
          obtain ⟨str, hstr⟩ : ∃ str, As (str = (⟨#[46]⟩ : ByteArray) ++ (⟨#[62]⟩ : ByteArray) ++ rb.extract 0 d ++ (⟨#[46]⟩ : ByteArray) ++ rb.extract d rb.size ++ (⟨#[32]⟩ : ByteArray) ++ ab ++ (⟨#[10]⟩ : ByteArray)) := ⟨_, ⟨rfl⟩⟩
          rw [← hstr.out] at HLN ⊢
          have hHI3 : As (Lib.IsBuilder 59 5 w1.heap.size w1.heap.size (Lib.byteCells (linesE s rs (l.take k))) w2.drew) := hHI2
          have hB3 : As (Below w1.heap.size w1 w2.drew) := ⟨⟨hB2.out.os, hB2.out.tape, hB2.out.output, hB2.out.size, hB2.out.block⟩⟩
          generalize w2.drew = w3 at hHI3 hB3 ⊢
          have hstep : As (linesE s rs (l.take (k + 1)) = linesE s rs (l.take k) ++ str.data.toList) := ⟨by rw [linesE_take s rs l k hlt, HXX.out, HLN.out]⟩
          have hbnd : As ((Lib.byteCells (linesE s rs (l.take k))).length + str.size ≤ 140737488355328) := ⟨by
            have h1 := linesE_le s rs l (k + 1)
            rw [hstep.out, List.length_append, Array.length_toList] at h1
            rw [Lib.byteCells_length]
            have := HN.out
            exact Nat.le_trans h1 this⟩
          have hwrite := XY.write_calls w1.heap.size w1.heap.size _ str w3 hHI3.out hbnd.out hB3.out.size
          clear hHI2 hB2 HWB q0 q1 d0 d1 d2 hstr
          go_wp2_with (first | (go_at_call 36; refine hwrite.mono ?_))
          rintro e w4 ⟨rfl, h1, b4⟩
          have H1 := As.mk h1
          have B4 := As.mk (hB3.out.trans b4)
          clear h1 b4 hwrite
          go_wp2
          go_roundg (l.length - (k + 1))
          case measure => omega
          case rel =>
            refine ⟨k + 1, by first | rfl | (congr 1; done) | (congr 1; omega), by omega, by omega, ⟨?_⟩, B4⟩
            rw [hstep.out, Lib.byteCells_append]
            exact .inr H1.out
        · obtain ⟨ri, rfl⟩ : ∃ m : Nat, r = m := ⟨r.toNat, by omega⟩
          have h0' : (0 : Int) ≤ (ri : Int) := by omega
          obtain ⟨rbk, roff, rcap, lbs, rbs, e, hDr, e1, _, c0, _⟩ := rule_at HR.out (i := ri) (by omega)
          have e : ar = some ⟨rbk, roff, none⟩ ∧ nr = rs.length ∧ cr = rcap := by simpa using e
          obtain ⟨rfl, rfl, rfl⟩ := e
          have hrl := HD.out rbk hDr
          have c0' : w2.cell? ⟨rbk, roff + ri * 2, none⟩ = some (.string lbs) := by
            rw [((hBR.out.trans (HWB.out.mono (Nat.le_of_lt hgl))).cell hrl)]; exact c0
          have hLBS : As (lbs.data.toList = leftE rs (ri : Int)) := ⟨by rw [e1, leftE, if_pos (by omega), Int.toNat_natCast]⟩
          have hls : lbs.size ≤ 1000000 := by
            have : lbs.size = lbs.data.toList.length := by rw [Array.length_toList]; rfl
            rw [this, hLBS.out]; exact F456.out.1
          clear c0 e1
          have hrlt : (ri : Int) < (rs.length : Int) := f1
          have z0 : (9223372036854775807 < lbs.size + 1) = False := eq_false (by omega)
          have z1 : (9223372036854775807 < lbs.size + 1 + d) = False := eq_false (by omega)
          have z2 : (9223372036854775807 < lbs.size + 1 + d + 1) = False := eq_false (by omega)
          have z3 : (9223372036854775807 < lbs.size + 1 + d + 1 + (rb.size - d)) = False := eq_false (by omega)
          have z4 : (9223372036854775807 < lbs.size + 1 + d + 1 + (rb.size - d) + 1) = False := eq_false (by omega)
          have z5 : (9223372036854775807 < lbs.size + 1 + d + 1 + (rb.size - d) + 1 + ab.size) = False := eq_false (by omega)
          have z6 : (9223372036854775807 < lbs.size + 1 + d + 1 + (rb.size - d) + 1 + ab.size + 1) = False := eq_false (by omega)
          have hline : (lbs ++ (⟨#[62]⟩ : ByteArray) ++ rb.extract 0 d ++ (⟨#[46]⟩ : ByteArray) ++ rb.extract d rb.size ++ (⟨#[32]⟩ : ByteArray) ++ ab ++ (⟨#[10]⟩ : ByteArray)).data.toList = lineE s rs ((ri : Int), (d : Int), av) := by
            simp only [lineE, ByteArray.data_append, Array.toList_append, ext_front, ext_back, hHRB.out, HAB.out, Int.toNat_natCast]
            rw [hLBS.out]
          have HLN := As.mk hline
          clear hline
          go_wp2_with fail
          go_still_tail 18, (by kernel_rfl)
          change wpList _ _ _ _ _ w2.drew
          obtain ⟨str, hstr⟩ : ∃ str, As (str = lbs ++ (⟨#[62]⟩ : ByteArray) ++ rb.extract 0 d ++ (⟨#[46]⟩ : ByteArray) ++ rb.extract d rb.size ++ (⟨#[32]⟩ : ByteArray) ++ ab ++ (⟨#[10]⟩ : ByteArray)) := ⟨_, ⟨rfl⟩⟩
          rw [← hstr.out] at HLN ⊢
          have hHI3 : As (Lib.IsBuilder 59 5 w1.heap.size w1.heap.size (Lib.byteCells (linesE s rs (l.take k))) w2.drew) := hHI2
          have hB3 : As (Below w1.heap.size w1 w2.drew) := ⟨⟨hB2.out.os, hB2.out.tape, hB2.out.output, hB2.out.size, hB2.out.block⟩⟩
          generalize w2.drew = w3 at hHI3 hB3 ⊢
          have hstep : As (linesE s rs (l.take (k + 1)) = linesE s rs (l.take k) ++ str.data.toList) := ⟨by rw [linesE_take s rs l k hlt, HXX.out, HLN.out]⟩
          have hbnd : As ((Lib.byteCells (linesE s rs (l.take k))).length + str.size ≤ 140737488355328) := ⟨by
            have h1 := linesE_le s rs l (k + 1)
            rw [hstep.out, List.length_append, Array.length_toList] at h1
            rw [Lib.byteCells_length]
            have := HN.out
            exact Nat.le_trans h1 this⟩
          have hwrite := XY.write_calls w1.heap.size w1.heap.size _ str w3 hHI3.out hbnd.out hB3.out.size
          clear hHI2 hB2 HWB q0 q1 d0 d1 d2 hstr
          go_wp2_with (first | (go_at_call 36; refine hwrite.mono ?_))
          rintro e w4 ⟨rfl, h1, b4⟩
          have H1 := As.mk h1
          have B4 := As.mk (hB3.out.trans b4)
          clear h1 b4 hwrite
          go_wp2
          go_roundg (l.length - (k + 1))
          case measure => omega
          case rel =>
            refine ⟨k + 1, by first | rfl | (congr 1; done) | (congr 1; omega), by omega, by omega, ⟨?_⟩, B4⟩
            rw [hstep.out, Lib.byteCells_append]
            exact .inr H1.out
      · have hlt' : ¬ (k : Int) < (l.length : Int) := by omega
        obtain rfl : k = l.length := by omega
        have hI := HI.out
        rw [List.take_length] at hI
        have hBB := HB.out.size
        have hI2 := As.mk hI
        clear hI HI
        have hcs := (Tryd.Builder_String_any w1.heap.size w1.heap.size (linesE s rs l) _ hI2.out hBB).mono (R' := StrR (linesE s rs l) w1.heap.size wr) (fun e w' h => ⟨h.1, h.2⟩)
        go_wp2_with (first | (go_at_call 37; refine hcs.mono ?_))
        rintro e w2 ⟨rfl, b2⟩
        have B2 := As.mk b2
        clear b2
        go_wp2
        go_ret
        exact ⟨rfl, (hB1.out.trans (HB.out.mono (Nat.le_of_lt hsz.out))).trans (B2.out.mono (Nat.le_of_lt hsz.out))⟩
/-- A call that yields a bool. -/
theorem bool_calls {P : Program} {A : Ann} {f : Nat} {vs : List V} {x : A.out f} {b : Bool} (HC : CallOk P A f vs x) (hx : Eng.asBool _ x = some b) (hh : (A.fa f).hand = []) {w : World} {D : Bs} {args : Array Value} (hD : ∀ y, D y → y < w.heap.size) (hg : GVs w D 0 vs args.toList []) :
    Calls P f args w fun e w' => e = .returned (.bool b) ∧ Below w.heap.size w w' := by
  refine (HC w (fun b => b < w.heap.size) D args [] (fun _ h => h) hD hg (fun e he => by simp at he) .nil).mono fun e w' he => ?_
  cases e with
  | panicked c => exact he.elim
  | outgrown => exact he.elim
  | returned v =>
    obtain ⟨⟨D', zs, hz, E', rfl, hlen, hhz, hF, _⟩, hos, htape, hout, hsz, hsame⟩ := he
    have h1 := Eng.asBool_ok hx hF
    rw [hh] at hhz
    have h2 : hz = [] := hhz
    rw [h2, List.append_nil] at h1
    rw [h1]
    exact ⟨rfl, hos, htape, hout, hsz, fun k hk => hsame k hk⟩
/-- Rules and items, as arguments of a call. -/
theorem args_in {w : World} {D : Bs} {s : List UInt8} {rs : List (List UInt8 × List UInt8)} {l : List (Int × Int × List UInt8)} {sb : ByteArray} {zr zl : Value} (hs : sb.data.toList = s) (hr : Rz w D (.sl (.pair .str .str)) rs [zr]) (hl : Rz w D (.sl (.pair (.int .i64) (.pair (.int .i64) .str))) l [zl]) :
    GVs w D 0 [.agg [.d .str s, .d (.sl (.pair .str .str)) rs], .d (.sl (.pair (.int .i64) (.pair (.int .i64) .str))) l] [.agg #[.string sb, zr], zl] [] := by
  refine gvs_cons ⟨fun _ _ _ e => (by cases e), fun _ e => (by cases e), fun η h => .agg _ _ rfl (fun i hi => ?_) (fun i hi => ?_)⟩ (gvs_cons (sv_d rfl hl) (gvs_nil _))
  · match i, hi with
    | 0, _ => exact Leaf.string
    | 1, _ => exact (Rz.shape _ _ _ hr).2 zr (by simp)
  · match i, hi with
    | 0, _ => exact .d .str s _ rfl ⟨sb, hs, rfl⟩
    | 1, _ => exact .d (.sl (.pair .str .str)) rs _ rfl hr
/-- The whole: under what ItemsOk answers. -/
theorem items_ok {A : Ann} {b : Bool} {x : A.out 18} {y : A.out 15} {s : List UInt8} {rs : List (List UInt8 × List UInt8)} {l : List (Int × Int × List UInt8)}
    (HC : CallOk Tryd.prog A 18 [.agg [.d .str s, .d (.sl (.pair .str .str)) rs], .d (.sl (.pair (.int .i64) (.pair (.int .i64) .str))) l] x) (hx : Eng.asBool _ x = some b) (hh : (A.fa 18).hand = [])
    (hfit : b = true → allFitE s rs l = true ∧ (linesE s rs l).length ≤ 140737488355328)
    (hy : ∀ (w : World) (D : Bs) (z : ByteArray), z.data.toList = itemsE b s rs l → FRs w D (A.fa 15).outs y [.string z] []) (hres : (A.fa 15).res.length = 1) (hh2 : (A.fa 15).hand = []) :
    CallOk Tryd.prog A 15 [.agg [.d .str s, .d (.sl (.pair .str .str)) rs], .d (.sl (.pair (.int .i64) (.pair (.int .i64) .str))) l] y := by
  intro w keep D0 args E hk hD hg hE hdis
  obtain ⟨z1, z2, ha, v1, v2⟩ : ∃ z1 z2, args.toList = [z1, z2] ∧ (∀ η h, Vr w D0 η h (.agg [.d .str s, .d (.sl (.pair .str .str)) rs]) z1) ∧ (∀ η h, Vr w D0 η h (.d (.sl (.pair (.int .i64) (.pair (.int .i64) .str))) l) z2) := by
    generalize args.toList = zas at hg ⊢
    cases hg with
    | cons _ _ _ z1 zs E1 E2 h1 t =>
      cases t with
      | cons _ _ _ z2 zs2 E3 E4 h2 t2 =>
        cases t2
        cases h1 with
        | v _ _ _ _ v1 => cases h2 with | v _ _ _ _ v2 => exact ⟨z1, z2, rfl, v1, v2⟩
  obtain ⟨cs, rfl, hs, hl, hr⟩ := vr_agg (v1 (fun _ => .box 0) [])
  have hlen : cs.toList.length = 2 := by simpa using hs
  obtain ⟨c0, c1, hcs⟩ : ∃ c0 c1, cs.toList = [c0, c1] := by
    match h : cs.toList, hlen with
    | [a, b], _ => exact ⟨a, b, rfl⟩
  obtain rfl : cs = #[c0, c1] := Array.ext' hcs
  obtain ⟨sb, e0, rfl⟩ := vr_str (hr 0 (by show 0 < 2; decide))
  have hR : Rz w D0 (.sl (.pair .str .str)) rs [c1] := vr_sl (hr 1 (by show 1 < 2; decide))
  have hL : Rz w D0 (.sl (.pair (.int .i64) (.pair (.int .i64) .str))) l [z2] := vr_sl (v2 (fun _ => .box 0) [])
  obtain ⟨ar, cr, rfl⟩ := head_of rfl hR
  obtain ⟨al, cl, rfl⟩ := head_of rfl hL
  obtain rfl : args = #[_, _] := Array.ext' ha
  have hDw : ∀ y, D0 y → y < w.heap.size := fun y hy => hk y (hD y hy)
  have hOk : ∀ w', Below w.heap.size w w' → Calls Tryd.prog 18 #[.agg #[.string sb, .slice ar (List.length rs) cr], .slice al (List.length l) cl] w' fun e w'' => e = .returned (.bool b) ∧ Below w'.heap.size w' w'' := fun w' hb' => by
    have hsm : Same D0 w w' := fun y hy => hb'.block y (hDw y hy)
    exact bool_calls HC hx hh (D := D0) (fun y hy => Nat.lt_of_lt_of_le (hDw y hy) hb'.size) (args_in e0 (Rz.mono (fun _ h => h) hsm _ _ _ hR) (Rz.mono (fun _ h => h) hsm _ _ _ hL))
  refine (items_calls e0 hR hL hDw b hOk hfit).mono fun e w' ⟨he, bel⟩ => ?_
  subst he
  refine ⟨⟨D0, [_], [], [], rfl, hres.symm, by rw [hh2]; rfl, hy w' D0 _ (by simp), fun _ h => h, fun _ h => .inl h, fun b h => Nat.lt_of_lt_of_le (hDw b h) bel.size, fun e he => by simp at he, .nil⟩, bel.os, bel.tape, bel.output, bel.size, fun b hb => bel.block b (hk b hb)⟩
end Go.Proofs.YtpoppblfnaipbaaDoor.XI
