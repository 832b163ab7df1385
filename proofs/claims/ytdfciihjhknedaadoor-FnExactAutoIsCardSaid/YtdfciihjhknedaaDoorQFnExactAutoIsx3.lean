-- PRINTED by print.py (a twelfth state) out of the translation. Not trusted: Lean checks it.
import Derived.Test.YtdfciihjhknedaaDoorQFnExactAutoIsx0
namespace Go.Proofs.YtdfciihjhknedaaDoor.PFnExactAutoIs
open Go.RowKit Go.Proofs.YtdfciihjhknedaaDoorW.PrintWords Go.Proofs.YtdfciihjhknedaaDoorW.PrintLast Go.Proofs.YtdfciihjhknedaaDoorW.PrintMore
attribute [local go_sem] max2_int min2_int max_two min_two max_three min_three max_four min_four   -- for this text's walks alone
set_option linter.unusedVariables false
set_option linter.unusedSimpArgs false

/-! ### impl_AutoOk: function 23 -/
def goal (n : Int) (x : Int) : Bool := decide (-1 ≤ x) && decide (x < n)
set_option maxHeartbeats 400000 in
theorem autoOk_isBad_calls (g : Nat) (a0 : Int) (A1 A2 : Option Addr) (n1 c1 n2 c2 : Nat) (x : Int) (w : World)
    (h0 : w.cell? ⟨g, 0, none⟩ = some (.int .i64 a0)) (h1 : w.cell? ⟨g, 1, none⟩ = some (.slice A1 n1 c1)) (h2 : w.cell? ⟨g, 2, none⟩ = some (.slice A2 n2 c2)) :
    Calls Tryd.prog 60 #[.int .i64 x, .pointer (some ⟨g, 0, none⟩)] w fun e w' => e = .returned (.bool (!(goal n1 x))) ∧ Below w.heap.size w w' := by
  have hu := Tryd.underlying28
  by_cases hx : -1 ≤ x
  · have b1 : decide (-1 ≤ x) = true := decide_eq_true hx
    by_cases hy : x < n1
    · have b2 : decide (x < (n1 : Int)) = true := decide_eq_true hy
      have hr : Aside0 (goal n1 x = true) := ⟨by simp [goal, hx, hy]⟩
      go_enter Tryd.func60, Tryd.ntmps60
      go_wp2
      go_ret
      exact ⟨by rw [hr.out]; rfl, (Below.refl _ _).alloc (Nat.le_refl _) _⟩
    · have b2 : decide (x < (n1 : Int)) = false := decide_eq_false hy
      have hr : Aside0 (goal n1 x = false) := ⟨by simp [goal, hy]⟩
      go_enter Tryd.func60, Tryd.ntmps60
      go_wp2
      go_ret
      exact ⟨by rw [hr.out]; rfl, (Below.refl _ _).alloc (Nat.le_refl _) _⟩
  · have b1 : decide (-1 ≤ x) = false := decide_eq_false hx
    have hr : Aside0 (goal n1 x = false) := ⟨by simp [goal, hx]⟩
    go_enter Tryd.func60, Tryd.ntmps60
    go_wp2
    go_ret
    exact ⟨by rw [hr.out]; rfl, (Below.refl _ _).alloc (Nat.le_refl _) _⟩

theorem autoOk_isBad_yes (g : Nat) (a0 : Int) (A1 A2 : Option Addr) (n1 c1 n2 c2 : Nat) (x : Int) (w : World)
    (h0 : w.cell? ⟨g, 0, none⟩ = some (.int .i64 a0)) (h1 : w.cell? ⟨g, 1, none⟩ = some (.slice A1 n1 c1)) (h2 : w.cell? ⟨g, 2, none⟩ = some (.slice A2 n2 c2)) (hg : goal n1 x = true) :
    Calls Tryd.prog 60 #[.int .i64 x, .pointer (some ⟨g, 0, none⟩)] w fun e w' => e = .returned (.bool false) ∧ Below w.heap.size w w' :=
  (autoOk_isBad_calls g a0 A1 A2 n1 c1 n2 c2 x w h0 h1 h2).mono fun e w' h => ⟨by rw [h.1, hg]; rfl, h.2⟩
theorem autoOk_isBad_no (g : Nat) (a0 : Int) (A1 A2 : Option Addr) (n1 c1 n2 c2 : Nat) (x : Int) (w : World)
    (h0 : w.cell? ⟨g, 0, none⟩ = some (.int .i64 a0)) (h1 : w.cell? ⟨g, 1, none⟩ = some (.slice A1 n1 c1)) (h2 : w.cell? ⟨g, 2, none⟩ = some (.slice A2 n2 c2)) (hg : goal n1 x = false) :
    Calls Tryd.prog 60 #[.int .i64 x, .pointer (some ⟨g, 0, none⟩)] w fun e w' => e = .returned (.bool true) ∧ Below w.heap.size w w' :=
  (autoOk_isBad_calls g a0 A1 A2 n1 c1 n2 c2 x w h0 h1 h2).mono fun e w' h => ⟨by rw [h.1, hg]; rfl, h.2⟩

/-- slices.IndexFunc over whole numbers, at the closure 70: the first that is no goal. -/
def bad (n : Int) (xs : List Int) : Int := if xs.all (goal n) then -1 else (xs.findIdx (fun x => !goal n x) : Int)
theorem bad_at (n : Int) (xs : List Int) (k : Nat) (h : k < xs.length) (hb : (xs.take k).all (goal n) = true) (hk : goal n (rd xs k) = false) : bad n xs = k := by
  have e : rd xs k = xs[k] := by simp [rd, List.getD_eq_getElem?_getD, List.getElem?_eq_getElem h]
  rw [e] at hk
  have hn : ¬ xs.all (goal n) = true := by
    intro h'
    have := List.all_eq_true.1 h' xs[k] (List.getElem_mem h)
    rw [hk] at this
    cases this
  unfold bad
  rw [if_neg hn]
  congr 1
  rw [List.findIdx_eq h]
  refine ⟨by simp [hk], fun j hj => ?_⟩
  have := List.all_eq_true.1 hb xs[j] (by rw [List.mem_take_iff_getElem]; exact ⟨j, by omega, rfl⟩)
  simp [this]
theorem bad_end (n : Int) (xs : List Int) (h : xs.all (goal n) = true) : bad n xs = -1 := by unfold bad; rw [if_pos h]
theorem all_snoc (n : Int) (xs : List Int) (k : Nat) (h : k < xs.length) (hb : (xs.take k).all (goal n) = true) (hk : goal n (rd xs k) = true) : (xs.take (k + 1)).all (goal n) = true := by
  have e : rd xs k = xs[k] := by simp [rd, List.getD_eq_getElem?_getD, List.getElem?_eq_getElem h]
  rw [e] at hk
  rw [List.take_succ_eq_append_getElem h, List.all_append, hb]
  simp [hk]
set_option maxHeartbeats 400000 in
theorem autoOk_idxInt_calls (g : Nat) (a0 : Int) (A1 A2 : Option Addr) (n1 c1 n2 c2 : Nat) (A : Option Addr) (c : Nat) (xs : List Int) (w : World)
    (hr : Kd.C (Kd.int .i64) w A xs.length xs) (hm : xs.length ≤ 9223372036854775807)
    (h0 : w.cell? ⟨g, 0, none⟩ = some (.int .i64 a0)) (h1 : w.cell? ⟨g, 1, none⟩ = some (.slice A1 n1 c1)) (h2 : w.cell? ⟨g, 2, none⟩ = some (.slice A2 n2 c2)) :
    Calls Tryd.prog 94 #[.slice A xs.length c, .func (.func 60) #[] #[.pointer (some ⟨g, 0, none⟩)]] w fun e w' => e = .returned (.int .i64 (bad n1 xs)) ∧ Below w.heap.size w w' := by
  have HR := Aside0.mk hr
  have HB := Aside0.mk (Below.refl w.heap.size w)
  have H0 := Aside0.mk h0
  have H1 := Aside0.mk h1
  have H2 := Aside0.mk h2
  clear hr h0 h1 h2
  go_enter Tryd.func94, Tryd.ntmps94
  go_wp2
  go_loopw [5, 8] (fun v5 v8 wr => ∃ k : Nat, k ≤ xs.length ∧ v8 = .int .i64 k ∧ Aside0 ((xs.take k).all (goal n1) = true) ∧ Aside0 (Below w.heap.size w wr)) (fun _ v8 _ => xs.length - (intOf v8).toNat)
  case atStart => exact ⟨0, by omega, by rfl, ⟨by simp⟩, HB⟩
  case round =>
    clear HB
    obtain ⟨k, hk, rfl, HA, HB⟩ := hrel
    by_cases hlt : k < xs.length
    · obtain ⟨ad, e, hx⟩ := Kd.at_int HR.out (k : Int) (by omega) (by omega)
      cases e
      rw [Int.toNat_natCast] at hx
      have hx' := pw_cell_below HB.out hx
      clear hx
      have h0' := pw_cell_below HB.out H0.out
      have h1' := pw_cell_below HB.out H1.out
      have h2' := pw_cell_below HB.out H2.out
      cases hgo : goal n1 (rd xs k) with
      | true =>
        have HA' := Aside0.mk (all_snoc n1 xs k hlt HA.out hgo)
        have HG := Aside0.mk hgo
        clear hgo
        go_wp2_with (go_at_call 60; refine (autoOk_isBad_yes g a0 A1 A2 n1 c1 n2 c2 _ _ (by assumption) (by assumption) (by assumption) HG.out).mono ?_; rintro e w' ⟨rfl, hb⟩)
        go_roundw
        case rel => exact ⟨k + 1, by omega, by go_num, HA', ⟨below_then HB.out HB.out.size (by assumption)⟩⟩
        case measure => simp [intOf]; omega
      | false =>
        have hbad := bad_at n1 xs k hlt HA.out hgo
        have HV := Aside0.mk hbad
        have HG := Aside0.mk hgo
        clear hgo hbad
        go_wp2_with (go_at_call 60; refine (autoOk_isBad_no g a0 A1 A2 n1 c1 n2 c2 _ _ (by assumption) (by assumption) (by assumption) HG.out).mono ?_; rintro e w' ⟨rfl, hb⟩)
        go_ret
        exact ⟨by rw [HV.out]; rfl, below_then HB.out HB.out.size (by assumption)⟩
    · have hke : k = xs.length := by omega
      have HV := Aside0.mk (bad_end n1 xs (by have := HA.out; rwa [hke, List.take_length] at this))
      clear hke
      go_wp2
      go_ret
      exact ⟨by rw [HV.out]; rfl, HB.out⟩
theorem bad_neg (n : Int) (xs : List Int) : decide (0 ≤ bad n xs) = !(xs.all (goal n)) := by
  unfold bad
  cases h : xs.all (goal n) <;> simp <;> omega
set_option maxHeartbeats 400000 in
theorem autoOk_hasInt_calls (g : Nat) (a0 : Int) (A1 A2 : Option Addr) (n1 c1 n2 c2 : Nat) (A : Option Addr) (c : Nat) (xs : List Int) (w : World)
    (hr : Kd.C (Kd.int .i64) w A xs.length xs) (hm : xs.length ≤ 9223372036854775807)
    (h0 : w.cell? ⟨g, 0, none⟩ = some (.int .i64 a0)) (h1 : w.cell? ⟨g, 1, none⟩ = some (.slice A1 n1 c1)) (h2 : w.cell? ⟨g, 2, none⟩ = some (.slice A2 n2 c2)) :
    Calls Tryd.prog 59 #[.slice A xs.length c, .func (.func 60) #[] #[.pointer (some ⟨g, 0, none⟩)]] w fun e w' => e = .returned (.bool (!(xs.all (goal n1)))) ∧ Below w.heap.size w w' := by
  have HR := Aside0.mk hr
  have H0 := Aside0.mk h0
  have H1 := Aside0.mk h1
  have H2 := Aside0.mk h2
  have HV := Aside0.mk (bad_neg n1 xs)
  clear hr h0 h1 h2
  go_enter Tryd.func59, Tryd.ntmps59
  go_wp2_with (go_at_call 94; refine (autoOk_idxInt_calls g a0 A1 A2 n1 c1 n2 c2 _ _ xs _ HR.out hm H0.out H1.out H2.out).mono ?_; rintro e w' ⟨rfl, hb⟩)
  go_ret
  exact ⟨by rw [← HV.out]; rfl, by assumption⟩

def okRow (n : Int) (xs : List Int) : Bool := decide (xs.length = 4) && xs.all (goal n)
set_option maxHeartbeats 400000 in
theorem autoOk_rowBad_calls (g : Nat) (a0 : Int) (A1 A2 : Option Addr) (n1 c1 n2 c2 : Nat) (A : Option Addr) (c : Nat) (xs : List Int) (w : World)
    (hr : Kd.C (Kd.int .i64) w A xs.length xs) (hm : xs.length ≤ 9223372036854775807)
    (h0 : w.cell? ⟨g, 0, none⟩ = some (.int .i64 a0)) (h1 : w.cell? ⟨g, 1, none⟩ = some (.slice A1 n1 c1)) (h2 : w.cell? ⟨g, 2, none⟩ = some (.slice A2 n2 c2)) :
    Calls Tryd.prog 58 #[.slice A xs.length c, .pointer (some ⟨g, 0, none⟩)] w fun e w' => e = .returned (.bool (!(okRow n1 xs))) ∧ Below w.heap.size w w' := by
  have HR := Aside0.mk hr
  have H0 := Aside0.mk h0
  have H1 := Aside0.mk h1
  have H2 := Aside0.mk h2
  clear hr h0 h1 h2
  by_cases h4 : xs.length = 4
  · have HV : Aside0 (okRow n1 xs = xs.all (goal n1)) := ⟨by simp [okRow, h4]⟩
    have b1 : ((xs.length : Int) != 4) = false := by simp [h4]
    have b2 : (xs.length != 4) = false := by simp [h4]
    clear h4
    go_enter Tryd.func58, Tryd.ntmps58
    go_wp2_with (go_at_call 59; refine (autoOk_hasInt_calls g a0 A1 A2 n1 c1 n2 c2 _ _ xs _ HR.out hm H0.out H1.out H2.out).mono ?_; rintro e w' ⟨rfl, hb⟩)
    go_ret
    exact ⟨by rw [HV.out]; rfl, by assumption⟩
  · have HV : Aside0 (okRow n1 xs = false) := ⟨by simp [okRow, h4]⟩
    have b1 : ((xs.length : Int) != 4) = true := by simp; omega
    have b2 : (xs.length != 4) = true := by simp [h4]
    clear h4
    go_enter Tryd.func58, Tryd.ntmps58
    go_wp2
    go_ret
    exact ⟨by rw [HV.out]; rfl, Below.refl _ _⟩

theorem autoOk_rowBad_yes (g : Nat) (a0 : Int) (A1 A2 : Option Addr) (n1 c1 n2 c2 : Nat) (A : Option Addr) (c : Nat) (xs : List Int) (w : World)
    (hr : Kd.C (Kd.int .i64) w A xs.length xs)
    (h0 : w.cell? ⟨g, 0, none⟩ = some (.int .i64 a0)) (h1 : w.cell? ⟨g, 1, none⟩ = some (.slice A1 n1 c1)) (h2 : w.cell? ⟨g, 2, none⟩ = some (.slice A2 n2 c2)) (hg : okRow n1 xs = true) :
    Calls Tryd.prog 58 #[.slice A xs.length c, .pointer (some ⟨g, 0, none⟩)] w fun e w' => e = .returned (.bool false) ∧ Below w.heap.size w w' :=
  (autoOk_rowBad_calls g a0 A1 A2 n1 c1 n2 c2 A c xs w hr hr.2.1 h0 h1 h2).mono fun e w' h => ⟨by rw [h.1, hg]; rfl, h.2⟩
theorem autoOk_rowBad_no (g : Nat) (a0 : Int) (A1 A2 : Option Addr) (n1 c1 n2 c2 : Nat) (A : Option Addr) (c : Nat) (xs : List Int) (w : World)
    (hr : Kd.C (Kd.int .i64) w A xs.length xs)
    (h0 : w.cell? ⟨g, 0, none⟩ = some (.int .i64 a0)) (h1 : w.cell? ⟨g, 1, none⟩ = some (.slice A1 n1 c1)) (h2 : w.cell? ⟨g, 2, none⟩ = some (.slice A2 n2 c2)) (hg : okRow n1 xs = false) :
    Calls Tryd.prog 58 #[.slice A xs.length c, .pointer (some ⟨g, 0, none⟩)] w fun e w' => e = .returned (.bool true) ∧ Below w.heap.size w w' :=
  (autoOk_rowBad_calls g a0 A1 A2 n1 c1 n2 c2 A c xs w hr hr.2.1 h0 h1 h2).mono fun e w' h => ⟨by rw [h.1, hg]; rfl, h.2⟩

def bad2 (n : Int) (xs : List (List Int)) : Int := if xs.all (okRow n) then -1 else (xs.findIdx (fun x => !okRow n x) : Int)
theorem bad2_at (n : Int) (xs : List (List Int)) (k : Nat) (h : k < xs.length) (hb : (xs.take k).all (okRow n) = true) (hk : okRow n (rd_L2 xs k) = false) : bad2 n xs = k := by
  have e : rd_L2 xs k = xs[k] := by simp [rd_L2, List.getD_eq_getElem?_getD, List.getElem?_eq_getElem h]
  rw [e] at hk
  have hn : ¬ xs.all (okRow n) = true := by
    intro h'
    have := List.all_eq_true.1 h' xs[k] (List.getElem_mem h)
    rw [hk] at this
    cases this
  unfold bad2
  rw [if_neg hn]
  congr 1
  rw [List.findIdx_eq h]
  refine ⟨by simp [hk], fun j hj => ?_⟩
  have := List.all_eq_true.1 hb xs[j] (by rw [List.mem_take_iff_getElem]; exact ⟨j, by omega, rfl⟩)
  simp [this]
theorem bad2_end (n : Int) (xs : List (List Int)) (h : xs.all (okRow n) = true) : bad2 n xs = -1 := by unfold bad2; rw [if_pos h]
theorem all2_snoc (n : Int) (xs : List (List Int)) (k : Nat) (h : k < xs.length) (hb : (xs.take k).all (okRow n) = true) (hk : okRow n (rd_L2 xs k) = true) : (xs.take (k + 1)).all (okRow n) = true := by
  have e : rd_L2 xs k = xs[k] := by simp [rd_L2, List.getD_eq_getElem?_getD, List.getElem?_eq_getElem h]
  rw [e] at hk
  rw [List.take_succ_eq_append_getElem h, List.all_append, hb]
  simp [hk]
theorem bad2_neg (n : Int) (xs : List (List Int)) : decide (0 ≤ bad2 n xs) = !(xs.all (okRow n)) := by
  unfold bad2
  cases h : xs.all (okRow n) <;> simp <;> omega
set_option maxHeartbeats 400000 in
theorem autoOk_idxRow_calls (g : Nat) (a0 : Int) (A1 A2 : Option Addr) (n1 c1 n2 c2 : Nat) (A : Option Addr) (c : Nat) (xs : List (List Int)) (w : World)
    (hr : Kd.C (Kd.slice 3 (Kd.int .i64)) w A xs.length xs)
    (h0 : w.cell? ⟨g, 0, none⟩ = some (.int .i64 a0)) (h1 : w.cell? ⟨g, 1, none⟩ = some (.slice A1 n1 c1)) (h2 : w.cell? ⟨g, 2, none⟩ = some (.slice A2 n2 c2)) :
    Calls Tryd.prog 93 #[.slice A xs.length c, .func (.func 58) #[] #[.pointer (some ⟨g, 0, none⟩)]] w fun e w' => e = .returned (.int .i64 (bad2 n1 xs)) ∧ Below w.heap.size w w' := by
  have hm := hr.2.1
  have HR := Aside0.mk hr
  have HB := Aside0.mk (Below.refl w.heap.size w)
  have H0 := Aside0.mk h0
  have H1 := Aside0.mk h1
  have H2 := Aside0.mk h2
  clear hr h0 h1 h2
  go_enter Tryd.func93, Tryd.ntmps93
  go_wp2
  go_loopw [5, 8] (fun v5 v8 wr => ∃ k : Nat, k ≤ xs.length ∧ v8 = .int .i64 k ∧ Aside0 ((xs.take k).all (okRow n1) = true) ∧ Aside0 (Below w.heap.size w wr)) (fun _ v8 _ => xs.length - (intOf v8).toNat)
  case atStart => exact ⟨0, by omega, by rfl, ⟨by simp⟩, HB⟩
  case round =>
    clear HB
    obtain ⟨k, hk, rfl, HA, HB⟩ := hrel
    by_cases hlt : k < xs.length
    · obtain ⟨ad, A0, c0, e, hx, _, hrow⟩ := at_L2 HR.out (k : Int) (by omega) (by omega)
      cases e
      rw [Int.toNat_natCast] at hx
      have hx' := pw_cell_below HB.out hx
      have HW := Aside0.mk (Kd.C_below hrow HB.out)
      clear hx hrow
      have h0' := pw_cell_below HB.out H0.out
      have h1' := pw_cell_below HB.out H1.out
      have h2' := pw_cell_below HB.out H2.out
      cases hgo : okRow n1 (rd_L2 xs k) with
      | true =>
        have HA' := Aside0.mk (all2_snoc n1 xs k hlt HA.out hgo)
        have HG := Aside0.mk hgo
        clear hgo
        go_wp2_with (go_at_call 58; refine (autoOk_rowBad_yes g a0 A1 A2 n1 c1 n2 c2 _ _ _ _ HW.out (by assumption) (by assumption) (by assumption) HG.out).mono ?_; rintro e w' ⟨rfl, hb⟩)
        go_roundw
        case rel => exact ⟨k + 1, by omega, by go_num, HA', ⟨below_then HB.out HB.out.size (by assumption)⟩⟩
        case measure => simp [intOf]; omega
      | false =>
        have hbad := bad2_at n1 xs k hlt HA.out hgo
        have HV := Aside0.mk hbad
        have HG := Aside0.mk hgo
        clear hgo hbad
        go_wp2_with (go_at_call 58; refine (autoOk_rowBad_no g a0 A1 A2 n1 c1 n2 c2 _ _ _ _ HW.out (by assumption) (by assumption) (by assumption) HG.out).mono ?_; rintro e w' ⟨rfl, hb⟩)
        go_ret
        exact ⟨by rw [HV.out]; rfl, below_then HB.out HB.out.size (by assumption)⟩
    · have hke : k = xs.length := by omega
      have HV := Aside0.mk (bad2_end n1 xs (by have := HA.out; rwa [hke, List.take_length] at this))
      clear hke
      go_wp2
      go_ret
      exact ⟨by rw [HV.out]; rfl, HB.out⟩
set_option maxHeartbeats 400000 in
theorem autoOk_hasRow_calls (g : Nat) (a0 : Int) (A1 A2 : Option Addr) (n1 c1 n2 c2 : Nat) (A : Option Addr) (c : Nat) (xs : List (List Int)) (w : World)
    (hr : Kd.C (Kd.slice 3 (Kd.int .i64)) w A xs.length xs)
    (h0 : w.cell? ⟨g, 0, none⟩ = some (.int .i64 a0)) (h1 : w.cell? ⟨g, 1, none⟩ = some (.slice A1 n1 c1)) (h2 : w.cell? ⟨g, 2, none⟩ = some (.slice A2 n2 c2)) :
    Calls Tryd.prog 57 #[.slice A xs.length c, .func (.func 58) #[] #[.pointer (some ⟨g, 0, none⟩)]] w fun e w' => e = .returned (.bool (!(xs.all (okRow n1)))) ∧ Below w.heap.size w w' := by
  have HR := Aside0.mk hr
  have H0 := Aside0.mk h0
  have H1 := Aside0.mk h1
  have H2 := Aside0.mk h2
  have HV := Aside0.mk (bad2_neg n1 xs)
  clear hr h0 h1 h2
  go_enter Tryd.func57, Tryd.ntmps57
  go_wp2_with (go_at_call 93; refine (autoOk_idxRow_calls g a0 A1 A2 n1 c1 n2 c2 _ _ xs _ HR.out H0.out H1.out H2.out).mono ?_; rintro e w' ⟨rfl, hb⟩)
  go_ret
  exact ⟨by rw [← HV.out]; rfl, by assumption⟩

theorem below_box {w w' : World} {o : Obj} (h : Below (w.alloc o).heap.size (w.alloc o) w') : Below w.heap.size w w' := below_then ((Below.refl _ _).alloc (Nat.le_refl _) _) (by simp) h
theorem below_box' {w w' : World} {o : Obj} (h : Below (w.heap.size + 1) (w.alloc o) w') : Below w.heap.size w w' := below_box (o := o) (by simpa using h)
def autoOk (b : Int) (ends : List Bool) (goes : List (List Int)) : Bool :=
  decide (1 ≤ ends.length ∧ ends.length ≤ 6 ∧ goes.length = ends.length ∧ 0 ≤ b ∧ b < ends.length) && goes.all (okRow ends.length)
def impl_AutoOk.f (a0_0 : Int) (l0_1 : List Bool) (l0_2 : List (List Int)) : Option Bool := some (autoOk a0_0 l0_1 l0_2)
set_option maxHeartbeats 800000 in
theorem impl_AutoOk.calls (a0_0 : Int) (A0_1 : Option Addr) (c0_1 : Nat) (l0_1 : List Bool) (A0_2 : Option Addr) (c0_2 : Nat) (l0_2 : List (List Int)) (r : Bool) (w : World) (hr0_1 : Kd.C Kd.bool w A0_1 l0_1.length l0_1) (hc0_1 : l0_1.length ≤ c0_1) (hr0_2 : Kd.C (Kd.slice 3 (Kd.int .i64)) w A0_2 l0_2.length l0_2) (hc0_2 : l0_2.length ≤ c0_2) (h : impl_AutoOk.f a0_0 l0_1 l0_2 = some r) :
    Calls Tryd.prog 23 #[.agg #[.int .i64 a0_0, .slice A0_1 l0_1.length c0_1, .slice A0_2 l0_2.length c0_2]] w fun e w' => e = .returned (.bool r) ∧ Below w.heap.size w w' := by
  have hu40 := Tryd.underlying28
  cases h
  have HR := Aside0.mk hr0_2
  clear hr0_1 hr0_2
  by_cases hq : 1 ≤ l0_1.length ∧ l0_1.length ≤ 6 ∧ l0_2.length = l0_1.length ∧ 0 ≤ a0_0 ∧ a0_0 < l0_1.length
  · have HV : Aside0 (autoOk a0_0 l0_1 l0_2 = l0_2.all (okRow l0_1.length)) := ⟨by unfold autoOk; rw [decide_eq_true hq]; rfl⟩
    obtain ⟨h1, h2, h3, h4, h5⟩ := hq
    have b1 : decide ((l0_1.length : Int) < 1) = false := decide_eq_false (by omega)
    have b2 : decide (6 < (l0_1.length : Int)) = false := decide_eq_false (by omega)
    have b3 : ((l0_2.length : Int) != (l0_1.length : Int)) = false := bne_eq_false_iff_eq.mpr (by omega)
    have b4 : decide (a0_0 < 0) = false := decide_eq_false (by omega)
    have b5 : decide ((l0_1.length : Int) ≤ a0_0) = false := decide_eq_false (by omega)
    clear h1 h2 h3 h4 h5
    go_enter Tryd.func23, Tryd.ntmps23
    go_wp2_with (go_at_call 57; refine (autoOk_hasRow_calls w.heap.size a0_0 A0_1 A0_2 l0_1.length c0_1 l0_2.length c0_2 _ _ l0_2 _ (Kd.C_below HR.out ((Below.refl _ _).alloc (Nat.le_refl _) _)) (by go_simp) (by go_simp) (by go_simp)).mono ?_; rintro e w' ⟨rfl, hb⟩)
    go_ret
    refine ⟨by rw [HV.out]; rfl, ?_⟩
    first | exact below_box (by assumption) | exact below_box' (by assumption)
  · have HV : Aside0 (autoOk a0_0 l0_1 l0_2 = false) := ⟨by unfold autoOk; rw [decide_eq_false hq]; rfl⟩
    by_cases h1 : 1 ≤ l0_1.length
    · have b1 : decide ((l0_1.length : Int) < 1) = false := decide_eq_false (by omega)
      by_cases h2 : l0_1.length ≤ 6
      · have b2 : decide (6 < (l0_1.length : Int)) = false := decide_eq_false (by omega)
        by_cases h3 : l0_2.length = l0_1.length
        · have b3 : ((l0_2.length : Int) != (l0_1.length : Int)) = false := bne_eq_false_iff_eq.mpr (by omega)
          by_cases h4 : 0 ≤ a0_0
          · have b4 : decide (a0_0 < 0) = false := decide_eq_false (by omega)
            have b5 : decide ((l0_1.length : Int) ≤ a0_0) = true := decide_eq_true (by omega)
            clear h1 h2 h3 h4 hq
            go_enter Tryd.func23, Tryd.ntmps23
            go_wp2
            go_ret
            exact ⟨by rw [HV.out]; rfl, (Below.refl _ _).alloc (Nat.le_refl _) _⟩
          · have b4 : decide (a0_0 < 0) = true := decide_eq_true (by omega)
            clear h1 h2 h3 h4 hq
            go_enter Tryd.func23, Tryd.ntmps23
            go_wp2
            go_ret
            exact ⟨by rw [HV.out]; rfl, (Below.refl _ _).alloc (Nat.le_refl _) _⟩
        · have b3 : ((l0_2.length : Int) != (l0_1.length : Int)) = true := bne_iff_ne.mpr (by omega)
          clear h1 h2 h3 hq
          go_enter Tryd.func23, Tryd.ntmps23
          go_wp2
          go_ret
          exact ⟨by rw [HV.out]; rfl, (Below.refl _ _).alloc (Nat.le_refl _) _⟩
      · have b2 : decide (6 < (l0_1.length : Int)) = true := decide_eq_true (by omega)
        clear h1 h2 hq
        go_enter Tryd.func23, Tryd.ntmps23
        go_wp2
        go_ret
        exact ⟨by rw [HV.out]; rfl, (Below.refl _ _).alloc (Nat.le_refl _) _⟩
    · have b1 : decide ((l0_1.length : Int) < 1) = true := decide_eq_true (by omega)
      clear h1 hq
      go_enter Tryd.func23, Tryd.ntmps23
      go_wp2
      go_ret
      exact ⟨by rw [HV.out]; rfl, (Below.refl _ _).alloc (Nat.le_refl _) _⟩


/-! ### strings_Trim: function 95 -/
def strings_Trim.f (a0 a1 : ByteArray) : Option (ByteArray) := if a0.size ≤ 9223372036854775807 ∧ a1.size < 4294967281 ∧ (a1.data.toList.all fun b => decide (b.toNat < 128)) = true then some ⟨(Lib.trimS a0.data.toList a1.data.toList).toArray⟩ else none
theorem strings_Trim.calls (a0 : ByteArray) (a1 : ByteArray) (r : ByteArray) (w : World) (h : strings_Trim.f a0 a1 = some r) :
    Calls Tryd.prog 95 #[.string a0, .string a1] w fun e w' => e = .returned (.string r) ∧ Below w.heap.size w w' := by
  unfold strings_Trim.f at h
  split at h
  · rename_i hc
    obtain ⟨h1, h2, h3⟩ := hc
    cases h
    exact Any.strings_Trim_laid Tryd.lays160 (by kernel_rfl) a0 a1 w h1 h2 (fun j b hb => by
      have := List.all_eq_true.1 h3 b (List.mem_of_getElem? hb)
      simpa using this)
  · cases h


/-! ### impl_areSmalls: function 69 -/
def impl_areSmalls.f (a0 : ByteArray) (a1 : Int) : Option (Bool) := if (a0.size : Int) ≤ a1 then ((strings_Trim.f a0 (⟨#[97, 98, 99, 100]⟩ : ByteArray)).bind fun t148 => (some (t148.toList == ([] : List UInt8)))) else (some false)
set_option maxHeartbeats 8000000 in
set_option maxRecDepth 100000 in
theorem impl_areSmalls.calls (a0 : ByteArray) (a1 : Int) (r : Bool) (w : World) (h : impl_areSmalls.f a0 a1 = some r) :
    Calls Tryd.prog 69 #[.string a0, .int .i64 a1] w fun e w' => e = .returned (.bool r) ∧ Below w.heap.size w w' := by
  have HB := Aside0.mk (Below.refl w.heap.size w)
  have H : (if (a0.size : Int) ≤ a1 then ((strings_Trim.f a0 (⟨#[97, 98, 99, 100]⟩ : ByteArray)).bind fun t148 => (some (t148.toList == ([] : List UInt8)))) else (some false)) = some r := h
  clear h
  by_cases c3 : (a0.size : Int) ≤ a1
  · rw [if_pos c3] at H
    have c3b0 : decide ((a0.size : Int) ≤ a1) = true := decide_eq_true c3
    clear c3
    replace H := Option.bind_eq_some_iff.mp H
    obtain ⟨t148, A40, H⟩ := H
    replace H : (some (t148.toList == ([] : List UInt8))) = some r := H
    have A4 := Aside0.mk A40
    clear A40
    obtain rfl := Option.some.inj H
    go_enter Tryd.func69, Tryd.ntmps69
    go_wp2_with (first | (go_at_call 95; (with_reducible refine (strings_Trim.calls a0 (⟨#[97, 98, 99, 100]⟩ : ByteArray) t148 _ A4.out).mono ?_); rintro e w5 ⟨rfl, hb⟩; have n0_ := Aside0.mk (below_step (by repeat (first | (with_reducible first | exact HB.out | apply below_alloc | apply pw_below_drewN | apply below_drew1) | exact HB.out)) hb); clear HB; have HB := n0_; clear n0_; (try clear hb); (try clear hb2); (try clear hk); (try clear hi)))
    go_ret
    exact ⟨by first | rfl | (simp [errW_none, errW_some] <;> rfl) | (simp [*, errW_none, errW_some] <;> rfl), by repeat (first | (with_reducible first | exact HB.out | apply below_alloc | apply pw_below_drewN | apply below_drew1) | exact HB.out)⟩
  · rw [if_neg c3] at H
    have c3b0 : decide ((a0.size : Int) ≤ a1) = false := decide_eq_false c3
    clear c3
    obtain rfl := Option.some.inj H
    go_enter Tryd.func69, Tryd.ntmps69
    go_wp2
    go_ret
    exact ⟨by first | rfl | (simp [errW_none, errW_some] <;> rfl) | (simp [*, errW_none, errW_some] <;> rfl), by repeat (first | (with_reducible first | exact HB.out | apply below_alloc | apply pw_below_drewN | apply below_drew1) | exact HB.out)⟩

/-! ### impl_TextOk: function 30 -/
def impl_TextOk.f (a0 : ByteArray) : Option (Bool) := (impl_areSmalls.f a0 8).bind fun t149 => (some t149)
set_option maxHeartbeats 8000000 in
set_option maxRecDepth 100000 in
theorem impl_TextOk.calls (a0 : ByteArray) (r : Bool) (w : World) (h : impl_TextOk.f a0 = some r) :
    Calls Tryd.prog 30 #[.string a0] w fun e w' => e = .returned (.bool r) ∧ Below w.heap.size w w' := by
  have HB := Aside0.mk (Below.refl w.heap.size w)
  have H : ((impl_areSmalls.f a0 8).bind fun t149 => (some t149)) = some r := h
  clear h
  replace H := Option.bind_eq_some_iff.mp H
  obtain ⟨t149, A20, H⟩ := H
  replace H : (some t149) = some r := H
  have A2 := Aside0.mk A20
  clear A20
  obtain rfl := Option.some.inj H
  go_enter Tryd.func30, Tryd.ntmps30
  go_wp2_with (first | ((with_reducible refine gate_callee (f := 69) rfl ?_); refine goesL_ (some 4) rfl rfl Tryd.func69 (by kernel_rfl) rfl #[.string a0, .int .i64 8] rfl (by (try simp only [List.map_toArray, List.map_cons, List.map_nil]); first | done | rfl | (simp only [List.length_drop, List.length_take]; rfl)) ?_; (with_reducible refine (impl_areSmalls.calls a0 8 t149 _ A2.out).mono ?_); rintro e w3 ⟨rfl, hb⟩; refine ⟨_, rfl, ?_⟩; have n0_ := Aside0.mk (below_step (by repeat (first | (with_reducible first | exact HB.out | apply below_alloc | apply pw_below_drewN | apply below_drew1) | exact HB.out)) hb); clear HB; have HB := n0_; clear n0_; (try clear hb); (try clear hb2); (try clear hk); (try clear hi)))
  go_ret
  exact ⟨by first | rfl | (simp [errW_none, errW_some] <;> rfl) | (simp [*, errW_none, errW_some] <;> rfl), by repeat (first | (with_reducible first | exact HB.out | apply below_alloc | apply pw_below_drewN | apply below_drew1) | exact HB.out)⟩

/-! ### impl_Auto_goes: function 43 -/
def impl_Auto_goes.f (a0_0 : Int) (l0_1 : List Bool) (l0_2 : List (List Int)) (a1 : Int) (a2 : Int) : Option (Int) := if 0 ≤ a1 then (if a1 < (l0_2.length : Int) then (if 0 ≤ ((a2 - 97) % 256) then (if ((a2 - 97) % 256) < ((rd_L2 l0_2 a1).length : Int) then (some (rd (rd_L2 l0_2 a1) ((a2 - 97) % 256))) else (none)) else (none)) else (none)) else (none)
set_option maxHeartbeats 8000000 in
set_option maxRecDepth 100000 in
theorem impl_Auto_goes.calls (a0_0 : Int) (A0_1 : Option Addr) (c0_1 : Nat) (l0_1 : List Bool) (A0_2 : Option Addr) (c0_2 : Nat) (l0_2 : List (List Int)) (a1 : Int) (a2 : Int) (r : Int) (w : World) (hr0_1 : Kd.C Kd.bool w A0_1 l0_1.length l0_1) (hc0_1 : l0_1.length ≤ c0_1) (hr0_2 : Kd.C (Kd.slice 3 (Kd.int .i64)) w A0_2 l0_2.length l0_2) (hc0_2 : l0_2.length ≤ c0_2) (h : impl_Auto_goes.f a0_0 l0_1 l0_2 a1 a2 = some r) :
    Calls Tryd.prog 43 #[.agg #[.int .i64 a0_0, .slice A0_1 l0_1.length c0_1, .slice A0_2 l0_2.length c0_2], .int .i64 a1, .int .u8 a2] w fun e w' => e = .returned (.int .i64 r) ∧ Below w.heap.size w w' := by
  have hu28 := Tryd.underlying28
  have HR0_1 := Aside0.mk hr0_1
  have HC0_1 := Aside0.mk hc0_1
  clear hr0_1 hc0_1
  have HR0_2 := Aside0.mk hr0_2
  have HC0_2 := Aside0.mk hc0_2
  clear hr0_2 hc0_2
  have HB := Aside0.mk (Below.refl w.heap.size w)
  have H : (if 0 ≤ a1 then (if a1 < (l0_2.length : Int) then (if 0 ≤ ((a2 - 97) % 256) then (if ((a2 - 97) % 256) < ((rd_L2 l0_2 a1).length : Int) then (some (rd (rd_L2 l0_2 a1) ((a2 - 97) % 256))) else (none)) else (none)) else (none)) else (none)) = some r := h
  clear h
  by_cases c4 : 0 ≤ a1
  · rw [if_pos c4] at H
    have c4b0 : decide (0 ≤ a1) = true := decide_eq_true c4
    clear c4
    by_cases c5 : a1 < (l0_2.length : Int)
    · rw [if_pos c5] at H
      have c5b0 : decide (a1 < (l0_2.length : Int)) = true := decide_eq_true c5
      clear c5
      obtain ⟨ji6, hji6⟩ : ∃ j_ : Int, ((a2 - 97) % 256) = j_ := ⟨_, rfl⟩
      replace H : (if 0 ≤ (ji6) then (if (ji6) < ((rd_L2 l0_2 a1).length : Int) then (some (rd (rd_L2 l0_2 a1) (ji6))) else (none)) else (none)) = some r := by first | (rw [hji6] at H; exact H) | (simp only [hji6] at H ⊢; exact H)
      by_cases c7 : 0 ≤ (ji6)
      · rw [if_pos c7] at H
        have c7b0 : decide (0 ≤ (ji6)) = true := decide_eq_true c7
        clear c7
        by_cases c8 : (ji6) < ((rd_L2 l0_2 a1).length : Int)
        · rw [if_pos c8] at H
          have c8b0 : decide ((ji6) < ((rd_L2 l0_2 a1).length : Int)) = true := decide_eq_true c8
          clear c8
          obtain rfl := Option.some.inj H
          go_enter Tryd.func43, Tryd.ntmps43
          go_wp2_with (first | ((with_reducible refine gate_dst (N := 3) rfl ?_); refine box_event ?hg (N := 3) ?hd (cs := #[.int .i64 a0_0, .slice A0_1 l0_1.length c0_1, .slice A0_2 l0_2.length c0_2]) (t := 28) ?hr ?_; (case hd => rfl); (case hg => rfl); (case hr => first | (go_simp; done) | (go_simp; rfl)); intro gb150 hg w9 hbox hb; have n0_ := Aside0.mk (below_step (by repeat (first | (with_reducible first | exact HB.out | apply below_alloc | apply pw_below_drewN | apply below_drew1) | exact HB.out)) hb); have n1_ := Aside0.mk (hbox); have n2_ := Aside0.mk ((by rw [hg]; exact (below_size (by repeat (first | (with_reducible first | exact HB.out | apply below_alloc | apply pw_below_drewN | apply below_drew1) | exact HB.out))) : w.heap.size ≤ gb150)); have n3_ := Aside0.mk ((by rw [hg]; exact (below_size (by repeat (first | (with_reducible first | exact HB.out | apply below_alloc | apply pw_below_drewN | apply below_drew1) | exact HB.out))) : w.heap.size ≤ gb150)); clear HB; have HB := n0_; have BK150 := n1_; have GW150 := n2_; have GE150 := n3_; clear n0_ n1_ n2_ n3_; clear hb hbox hg; have hcz10_0 : w9.cell? ⟨gb150, 0, none⟩ = some (.int .i64 a0_0) := (blk_cell BK150.out 0).trans rfl; have hcz10_1 : w9.cell? ⟨gb150, 1, none⟩ = some (.slice A0_1 l0_1.length c0_1) := (blk_cell BK150.out 1).trans rfl; have hcz10_2 : w9.cell? ⟨gb150, 2, none⟩ = some (.slice A0_2 l0_2.length c0_2) := (blk_cell BK150.out 2).trans rfl; have hfz10_0 := blk_frozen BK150.out 0; have hfz10_1 := blk_frozen BK150.out 1; have hfz10_2 := blk_frozen BK150.out 2; have p151 : 0 ≤ (a1 : Int) := of_decide_eq_true (by first | (with_reducible assumption) | assumption); have q151 : a1 < (l0_2.length : Int) := of_decide_eq_true (by first | (with_reducible assumption) | assumption); obtain ⟨ad151, A151_0, c151_0, e151, hx151_0, hl151_0, hi151_0⟩ := at_L2 HR0_2.out a1 p151 q151; cases e151; replace hx151_0 := (HB.out.cell (World.block_lt_of_cell? w _ hx151_0)).trans hx151_0; have HR151_0 := Aside0.mk hi151_0; have HC151_0 := Aside0.mk hl151_0; clear hi151_0 hl151_0; replace p151 := eq_true p151; replace q151 := eq_true q151; have p152 : 0 ≤ ((ji6) : Int) := of_decide_eq_true (by first | (with_reducible assumption) | assumption); have q152 : (ji6) < ((rd_L2 l0_2 a1).length : Int) := of_decide_eq_true (by first | (with_reducible assumption) | assumption); obtain ⟨ad152, e152, hx152_0⟩ := Kd.at_int HR151_0.out (ji6) p152 q152; cases e152; replace hx152_0 := (HB.out.cell (World.block_lt_of_cell? w _ hx152_0)).trans hx152_0; replace p152 := eq_true p152; replace q152 := eq_true q152))
          go_ret
          exact ⟨by first | rfl | (simp [errW_none, errW_some] <;> rfl) | (simp only [← hji6]; first | rfl | (simp [errW_none, errW_some] <;> rfl)) | (simp [*, errW_none, errW_some] <;> rfl), by repeat (first | (with_reducible first | exact HB.out | apply below_alloc | apply pw_below_drewN | apply below_drew1 | refine below_set ?_ GE150.out) | exact HB.out)⟩
        · rw [if_neg c8] at H
          exact absurd H (by simp)
      · rw [if_neg c7] at H
        exact absurd H (by simp)
    · rw [if_neg c5] at H
      exact absurd H (by simp)
  · rw [if_neg c4] at H
    exact absurd H (by simp)

end Go.Proofs.YtdfciihjhknedaaDoor.PFnExactAutoIs
