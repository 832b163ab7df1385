/- YtilogmimbdpnbaaDoorSFnGramForQFnGramForx9: a text of FnGramFor's claim, out of the kit's print, cut down to what is used. -/
import Derived.Test.YtilogmimbdpnbaaDoorSFnGramForQFnGramForx0
import Derived.Test.YtilogmimbdpnbaaDoorSFnGramForQFnGramForx3
import Derived.Test.YtilogmimbdpnbaaDoorSFnGramForQFnGramForx4
import Derived.Test.YtilogmimbdpnbaaDoorSFnGramForQFnGramForx6
import Derived.Test.YtilogmimbdpnbaaDoorSFnGramForQFnGramForx8
namespace Go.Proofs.YtilogmimbdpnbaaDoor.PFnGramFor
open Go.RowKit Go.Proofs.YtilogmimbdpnbaaDoorW.PrintWords Go.Proofs.YtilogmimbdpnbaaDoorW.PrintLast Go.Proofs.YtilogmimbdpnbaaDoorW.PrintMore
attribute [local go_sem] max2_int min2_int max_two min_two max_three min_three max_four min_four
set_option linter.unusedVariables false
set_option linter.unusedSimpArgs false
mutual
def laws_FnGramFor.j0 : Nat → ByteArray → List Int → Bool → ByteArray → List (S42) → Option (Bool)
  | 0, _, _, _, _, _ => none
  | k + 1, x4, x5, x29, x313000, x313001 => if x29 = true then ((spec_GramFor.f k x313000 x313001 x4).bind fun t321 => ((laws_wpNums.f k x5 t321).bind fun t324 => (some t324))) else (laws_FnGramFor.l0 k x4 x5 0 0 x313000 x313001)
def laws_FnGramFor.l0 : Nat → ByteArray → List Int → Int → Int → ByteArray → List (S42) → Option (Bool)
  | 0, _, _, _, _, _, _ => none
  | k + 1, x4, x5, x6, x7, x313000, x313001 => if x7 < (x313001.length : Int) then (if 0 ≤ x7 then (if ((rd_T42 x313001 x7).f0).toList = x4.toList then (if x6 ≥ (x5.length : Int) then (some false) else (if 0 ≤ x6 then (if x6 < (x5.length : Int) then (if (rd x5 x6) = x7 then (laws_FnGramFor.l0 k x4 x5 (wrap64 (x6 + 1)) (wrap64 (x7 + 1)) x313000 x313001) else (some false)) else (none)) else (none))) else (laws_FnGramFor.l0 k x4 x5 x6 (wrap64 (x7 + 1)) x313000 x313001)) else (none)) else (if x6 = (x5.length : Int) then (if x6 = 0 then (some true) else ((impl_SignBig.f x4).bind fun t325 => (some t325))) else (some false))
end
def laws_FnGramFor.f (k : Nat) (l0 : List Int) : Option (Bool) := if (l0.length : Int) > 1048576 then (some true) else ((spec_DrawGramFor.f k l0).bind fun bt307 => ((impl_GramFor.f k bt307.1 bt307.2.1 bt307.2.2).bind fun t313 => ((spec_GramFor.f k bt307.1 bt307.2.1 bt307.2.2).bind fun t316 => ((laws_wpNums.f k t313 t316).bind fun t319 => (if t319 = true then ((spec_GramOk.f k bt307.1 bt307.2.1).bind fun t320 => (laws_FnGramFor.j0 k bt307.2.2 t313 (!t320) bt307.1 bt307.2.1)) else (laws_FnGramFor.j0 k bt307.2.2 t313 true bt307.1 bt307.2.1))))))
theorem laws_FnGramFor.mono_l : ∀ k, (∀ y0 y1 y2 y3 y4, LeO (laws_FnGramFor.j0 k y0 y1 y2 y3 y4) (laws_FnGramFor.j0 (k + 1) y0 y1 y2 y3 y4)) ∧ (∀ y0 y1 y2 y3 y4 y5, LeO (laws_FnGramFor.l0 k y0 y1 y2 y3 y4 y5) (laws_FnGramFor.l0 (k + 1) y0 y1 y2 y3 y4 y5))
  | 0 => ⟨fun _ _ _ _ _ r h => by simp [laws_FnGramFor.j0] at h, fun _ _ _ _ _ _ r h => by simp [laws_FnGramFor.l0] at h⟩
  | k + 1 => by
    obtain ⟨ih0, ih1⟩ := laws_FnGramFor.mono_l k
    refine ⟨?_, ?_⟩
    · intro y0 y1 y2 y3 y4
      unfold laws_FnGramFor.j0
      repeat' first
      | (with_reducible exact ih0 _ _ _ _ _)
      | (with_reducible exact ih1 _ _ _ _ _ _)
      | (with_reducible exact impl_GramFor.mono _ _ _ _)
      | (with_reducible exact laws_wpNums.mono _ _ _)
      | (with_reducible exact spec_DrawGramFor.mono _ _)
      | (with_reducible exact spec_GramFor.mono _ _ _ _)
      | (with_reducible exact spec_GramOk.mono _ _ _)
      | (with_reducible exact LeO.refl _)
      | (with_reducible exact LeO.none _)
      | (with_reducible refine LeO.ite ?_ ?_)
      | (with_reducible refine LeO.bind ?_ (fun _ => ?_))
      | exact ih0 _ _ _ _ _
      | exact ih1 _ _ _ _ _ _
      | exact impl_GramFor.mono _ _ _ _
      | exact laws_wpNums.mono _ _ _
      | exact spec_DrawGramFor.mono _ _
      | exact spec_GramFor.mono _ _ _ _
      | exact spec_GramOk.mono _ _ _
      | exact LeO.none _
      | refine LeO.ite ?_ ?_
      | refine LeO.bind ?_ (fun _ => ?_)
    · intro y0 y1 y2 y3 y4 y5
      unfold laws_FnGramFor.l0
      repeat' first
      | (with_reducible exact ih0 _ _ _ _ _)
      | (with_reducible exact ih1 _ _ _ _ _ _)
      | (with_reducible exact impl_GramFor.mono _ _ _ _)
      | (with_reducible exact laws_wpNums.mono _ _ _)
      | (with_reducible exact spec_DrawGramFor.mono _ _)
      | (with_reducible exact spec_GramFor.mono _ _ _ _)
      | (with_reducible exact spec_GramOk.mono _ _ _)
      | (with_reducible exact LeO.refl _)
      | (with_reducible exact LeO.none _)
      | (with_reducible refine LeO.ite ?_ ?_)
      | (with_reducible refine LeO.bind ?_ (fun _ => ?_))
      | exact ih0 _ _ _ _ _
      | exact ih1 _ _ _ _ _ _
      | exact impl_GramFor.mono _ _ _ _
      | exact laws_wpNums.mono _ _ _
      | exact spec_DrawGramFor.mono _ _
      | exact spec_GramFor.mono _ _ _ _
      | exact spec_GramOk.mono _ _ _
      | exact LeO.none _
      | refine LeO.ite ?_ ?_
      | refine LeO.bind ?_ (fun _ => ?_)
theorem laws_FnGramFor.mono : ∀ a0 k, LeO (laws_FnGramFor.f k a0) (laws_FnGramFor.f (k + 1) a0) := by
  intro a0 k
  obtain ⟨ih0, ih1⟩ := laws_FnGramFor.mono_l k
  unfold laws_FnGramFor.f
  repeat' first
      | (with_reducible exact ih0 _ _ _ _ _)
      | (with_reducible exact ih1 _ _ _ _ _ _)
      | (with_reducible exact impl_GramFor.mono _ _ _ _)
      | (with_reducible exact laws_wpNums.mono _ _ _)
      | (with_reducible exact spec_DrawGramFor.mono _ _)
      | (with_reducible exact spec_GramFor.mono _ _ _ _)
      | (with_reducible exact spec_GramOk.mono _ _ _)
      | (with_reducible exact LeO.refl _)
      | (with_reducible exact LeO.none _)
      | (with_reducible refine LeO.ite ?_ ?_)
      | (with_reducible refine LeO.bind ?_ (fun _ => ?_))
      | exact ih0 _ _ _ _ _
      | exact ih1 _ _ _ _ _ _
      | exact impl_GramFor.mono _ _ _ _
      | exact laws_wpNums.mono _ _ _
      | exact spec_DrawGramFor.mono _ _
      | exact spec_GramFor.mono _ _ _ _
      | exact spec_GramOk.mono _ _ _
      | exact LeO.none _
      | refine LeO.ite ?_ ?_
      | refine LeO.bind ?_ (fun _ => ?_)
set_option maxHeartbeats 8000000 in
set_option maxRecDepth 100000 in
theorem laws_FnGramFor.calls (k : Nat) (A0 : Option Addr) (c0 : Nat) (l0 : List Int) (r : Bool) (w : World) (hr0 : Kd.C (Kd.int .u8) w A0 l0.length l0) (hc0 : l0.length ≤ c0) (h : laws_FnGramFor.f k l0 = some r) :
    Calls Tryd.prog 7 #[.slice A0 l0.length c0] w fun e w' => e = .returned (.bool r) ∧ Below w.heap.size w w' := by
  have hu39 := Tryd.underlying39
  have HR0 := Aside0.mk hr0
  have HC0 := Aside0.mk hc0
  clear hr0 hc0
  have HB := Aside0.mk (Below.refl w.heap.size w)
  have H : (if (l0.length : Int) > 1048576 then (some true) else ((spec_DrawGramFor.f k l0).bind fun bt307 => ((impl_GramFor.f k bt307.1 bt307.2.1 bt307.2.2).bind fun t313 => ((spec_GramFor.f k bt307.1 bt307.2.1 bt307.2.2).bind fun t316 => ((laws_wpNums.f k t313 t316).bind fun t319 => (if t319 = true then ((spec_GramOk.f k bt307.1 bt307.2.1).bind fun t320 => (laws_FnGramFor.j0 k bt307.2.2 t313 (!t320) bt307.1 bt307.2.1)) else (laws_FnGramFor.j0 k bt307.2.2 t313 true bt307.1 bt307.2.1))))))) = some r := h
  clear h
  by_cases c2 : (l0.length : Int) > 1048576
  · rw [if_pos c2] at H
    have c2b0 : decide (1048576 < (l0.length : Int)) = true := decide_eq_true c2
    have c2b1 : decide (1048576 < l0.length) = true := decide_eq_true (by omega)
    clear c2
    obtain rfl := Option.some.inj H
    go_enter Tryd.func7, Tryd.ntmps7
    go_wp2
    go_ret
    exact ⟨by first | rfl | (simp [errW_none, errW_some] <;> rfl) | (simp [*, errW_none, errW_some] <;> rfl), by repeat (first | (with_reducible first | exact HB.out | apply below_alloc | apply pw_below_drewN | apply below_drew1) | exact HB.out)⟩
  · rw [if_neg c2] at H
    have c2b0 : decide (1048576 < (l0.length : Int)) = false := decide_eq_false c2
    have c2b1 : decide (1048576 < l0.length) = false := decide_eq_false (by omega)
    clear c2
    replace H := Option.bind_eq_some_iff.mp H
    obtain ⟨⟨t307, t308, t311⟩, A30, H⟩ := H
    replace H : ((impl_GramFor.f k t307 t308 t311).bind fun t313 => ((spec_GramFor.f k t307 t308 t311).bind fun t316 => ((laws_wpNums.f k t313 t316).bind fun t319 => (if t319 = true then ((spec_GramOk.f k t307 t308).bind fun t320 => (laws_FnGramFor.j0 k t311 t313 (!t320) t307 t308)) else (laws_FnGramFor.j0 k t311 t313 true t307 t308))))) = some r := H
    have A3 := Aside0.mk A30
    clear A30
    replace H := Option.bind_eq_some_iff.mp H
    obtain ⟨t313, A40, H⟩ := H
    replace H : ((spec_GramFor.f k t307 t308 t311).bind fun t316 => ((laws_wpNums.f k t313 t316).bind fun t319 => (if t319 = true then ((spec_GramOk.f k t307 t308).bind fun t320 => (laws_FnGramFor.j0 k t311 t313 (!t320) t307 t308)) else (laws_FnGramFor.j0 k t311 t313 true t307 t308)))) = some r := H
    have A4 := Aside0.mk A40
    clear A40
    have HC5 := Aside0.mk H
    clear H
    go_enter Tryd.func7, Tryd.ntmps7
    go_upto_region 5 with (first | ((with_reducible refine gate_callee (f := 25) rfl ?_); refine goesL_ (some 13) rfl rfl Tryd.func25 (by kernel_rfl) rfl #[.slice A0 l0.length c0] rfl (by (try simp only [List.map_toArray, List.map_cons, List.map_nil]); first | done | rfl | (simp only [List.length_drop, List.length_take]; rfl)) ?_; (with_reducible refine (spec_DrawGramFor.calls k _ _ l0 t307 t308 t311 _ ?side1 ?side2 A3.out).mono ?_); (case side1 => repeat (first | exact HR0.out | (with_reducible refine Kd.C_alloc ?_ _) | (with_reducible refine Kd.C_drewN ?_ _) | (with_reducible refine Kd.C_drew ?_))); (case side2 => exact HC0.out); rintro e w6 ⟨v309, rfl, ho0, hb⟩; refine ⟨_, rfl, ?_⟩; have n0_ := Aside0.mk (Kd.R_lower ho0 (below_size (by repeat (first | (with_reducible first | exact HB.out | apply below_alloc | apply pw_below_drewN | apply below_drew1) | exact HB.out)))); have n1_ := Aside0.mk (below_step (by repeat (first | (with_reducible first | exact HB.out | apply below_alloc | apply pw_below_drewN | apply below_drew1) | exact HB.out)) hb); clear HB; have HO310 := n0_; have HB := n1_; clear n0_ n1_; (try clear hb); (try clear hb2); (try clear hk); (try clear hi); (try clear ho0)) | ((with_reducible refine gate_dst (N := 3) rfl ?_); refine box_event ?hg (N := 3) ?hd (cs := #[.string (⟨#[]⟩ : ByteArray), .slice none 0 0]) (t := 39) ?hr ?_; (case hd => rfl); (case hg => rfl); (case hr => first | (go_simp; done) | (go_simp; rfl)); intro gb312 hg w7 hbox hb; have n0_ := Aside0.mk (Kd.R_below (by (with_reducible repeat (first | apply Kd.R_alloc | apply Kd.R_drewN | apply Kd.R_drew)); exact HO310.out) hb); have n1_ := Aside0.mk (below_step (by repeat (first | (with_reducible first | exact HB.out | apply below_alloc | apply pw_below_drewN | apply below_drew1) | exact HB.out)) hb); have n2_ := Aside0.mk (hbox); have n3_ := Aside0.mk ((by rw [hg]; exact (below_size (by repeat (first | (with_reducible first | exact HB.out | apply below_alloc | apply pw_below_drewN | apply below_drew1) | exact HB.out))) : w.heap.size ≤ gb312)); have n4_ := Aside0.mk ((by rw [hg]; exact (below_size (by repeat (first | (with_reducible first | exact HB.out | apply below_alloc | apply pw_below_drewN | apply below_drew1) | exact HB.out))) : w.heap.size ≤ gb312)); clear HO310; clear HB; have HO310 := n0_; have HB := n1_; have BK312 := n2_; have GW312 := n3_; have GE312 := n4_; clear n0_ n1_ n2_ n3_ n4_; clear hb hbox hg; have hcz8_0 : w7.cell? ⟨gb312, 0, none⟩ = some (.string (⟨#[]⟩ : ByteArray)) := (blk_cell BK312.out 0).trans rfl; have hcz8_1 : w7.cell? ⟨gb312, 1, none⟩ = some (.slice none 0 0) := (blk_cell BK312.out 1).trans rfl; have hfz8_0 := blk_frozen BK312.out 0; have hfz8_1 := blk_frozen BK312.out 1; obtain ⟨Ao9, co9, eo9⟩ := Kd.R_slice HO310.out; subst eo9) | ((with_reducible refine gate_callee (f := 24) rfl ?_); refine goesL_ (some 18) rfl rfl Tryd.func24 (by kernel_rfl) rfl #[.agg #[.string t307, .slice Ao9 t308.length co9], .string t311] rfl (by (try simp only [List.map_toArray, List.map_cons, List.map_nil]); first | done | rfl | (simp only [List.length_drop, List.length_take]; rfl)) ?_; (with_reducible refine (impl_GramFor.calls k t307 _ _ t308 t311 t313 _ ?side1 ?side2 A4.out).mono ?_); (case side1 => refine (Kd.R_reads' (e := 42) (base := w.heap.size) (ok := fun k_ => True) (n := t308.length) (c := co9) ?_).2.2; exact (by (with_reducible repeat (first | apply Kd.R_alloc | apply Kd.R_drewN | apply Kd.R_drew)); exact (Kd.R_mono (Kd.R_far (p := ⟨gb312, 1, none⟩) (Kd.R_far (p := ⟨gb312, 0, none⟩) (Kd.R_types HO310.out BK312.out (by decide)) (fun _ hk => hk.2) (.string t307)) (fun _ hk => hk.2) (.slice Ao9 t308.length co9)) (fun _ h_ => h_.1)))); (case side2 => exact (Kd.R_reads' HO310.out).2.1); rintro e w10 ⟨v314, rfl, ho0, hb⟩; refine ⟨_, rfl, ?_⟩; have n0_ := Aside0.mk (Kd.R_below (by (with_reducible repeat (first | apply Kd.R_alloc | apply Kd.R_drewN | apply Kd.R_drew)); exact (Kd.R_mono (Kd.R_far (p := ⟨gb312, 1, none⟩) (Kd.R_far (p := ⟨gb312, 0, none⟩) (Kd.R_types HO310.out BK312.out (by decide)) (fun _ hk => hk.2) (.string t307)) (fun _ hk => hk.2) (.slice Ao9 t308.length co9)) (fun _ h_ => h_.1))) hb); have n1_ := Aside0.mk (Kd.R_lower ho0 (below_size (by repeat (first | (with_reducible first | exact HB.out | apply below_alloc | apply pw_below_drewN | apply below_drew1 | refine below_set ?_ GE312.out) | exact HB.out)))); have n2_ := Aside0.mk (blk_below (g := gb312) (o := .cells #[.string t307, .slice Ao9 t308.length co9] 39 (0, 0)) (by (with_reducible repeat (first | refine blk_drewN ?_ _ | refine blk_drew ?_ | refine blk_alloc ?_ _)); refine blk_put (cs := #[.string t307, .slice none 0 0]) ?_ 1 _ rfl; (with_reducible repeat (first | refine blk_drewN ?_ _ | refine blk_drew ?_ | refine blk_alloc ?_ _)); refine blk_put (cs := #[.string (⟨#[]⟩ : ByteArray), .slice none 0 0]) ?_ 0 _ rfl; (with_reducible repeat (first | refine blk_drewN ?_ _ | refine blk_drew ?_ | refine blk_alloc ?_ _)); exact BK312.out) hb); have n3_ := Aside0.mk (below_step (by repeat (first | (with_reducible first | exact HB.out | apply below_alloc | apply pw_below_drewN | apply below_drew1 | refine below_set ?_ GE312.out) | exact HB.out)) hb); clear HO310; clear BK312; clear HB; have HO310 := n0_; have HO315 := n1_; have BK312 := n2_; have HB := n3_; clear n0_ n1_ n2_ n3_; (try clear hb); (try clear hb2); (try clear hk); (try clear hi); (try clear ho0)))
    (try simp only [Act.put, List.setIfInBounds_toArray, List.set_cons_zero, List.set_cons_succ])
    go_cut [29] (fun v29 wc => ∃ (kq : Nat) (x29_4 : Bool), v29 = .bool x29_4 ∧ Aside0 (laws_FnGramFor.j0 kq t311 t313 x29_4 t307 t308 = some r) ∧ Aside0 (kq ≤ k) ∧ Aside0 (Kd.R (Kd.int .i64) 3 wc w.heap.size (fun _ => True) v314 t313) ∧ Aside0 (Kd.R k42 42 wc w.heap.size (fun _ => True) (.slice Ao9 t308.length co9) t308) ∧ Aside0 (wc.heap[gb312]? = some (.cells #[.string t307, (.slice Ao9 t308.length co9)] 39 (0, 0))) ∧ Aside0 (Below w.heap.size w wc))
    case first =>
      have H := HC5.out
      clear HC5
      replace H := Option.bind_eq_some_iff.mp H
      obtain ⟨t316, A110, H⟩ := H
      replace H : ((laws_wpNums.f k t313 t316).bind fun t319 => (if t319 = true then ((spec_GramOk.f k t307 t308).bind fun t320 => (laws_FnGramFor.j0 k t311 t313 (!t320) t307 t308)) else (laws_FnGramFor.j0 k t311 t313 true t307 t308))) = some r := H
      have A11 := Aside0.mk A110
      clear A110
      replace H := Option.bind_eq_some_iff.mp H
      obtain ⟨t319, A120, H⟩ := H
      replace H : (if t319 = true then ((spec_GramOk.f k t307 t308).bind fun t320 => (laws_FnGramFor.j0 k t311 t313 (!t320) t307 t308)) else (laws_FnGramFor.j0 k t311 t313 true t307 t308)) = some r := H
      have A12 := Aside0.mk A120
      clear A120
      by_cases c13 : t319 = true
      · subst c13
        have H1 : ((spec_GramOk.f k t307 t308).bind fun t320 => (laws_FnGramFor.j0 k t311 t313 (!t320) t307 t308)) = some r := by rw [if_pos rfl] at H; exact H
        clear H
        have H := H1
        clear H1
        replace H := Option.bind_eq_some_iff.mp H
        obtain ⟨t320, A140, H⟩ := H
        replace H : (laws_FnGramFor.j0 k t311 t313 (!t320) t307 t308) = some r := H
        have A14 := Aside0.mk A140
        clear A140
        have H' := Aside0.mk H
        clear H
        have hcz15_0 : w10.cell? ⟨gb312, 0, none⟩ = some (.string t307) := (blk_cell BK312.out 0).trans rfl
        have hcz15_1 : w10.cell? ⟨gb312, 1, none⟩ = some (.slice Ao9 t308.length co9) := (blk_cell BK312.out 1).trans rfl
        have hfz15_0 := blk_frozen BK312.out 0
        have hfz15_1 := blk_frozen BK312.out 1
        go_wp2_with (first | ((with_reducible refine gate_callee (f := 27) rfl ?_); refine goesL_ (some 22) rfl rfl Tryd.func27 (by kernel_rfl) rfl #[.agg #[.string t307, .slice Ao9 t308.length co9], .string t311] rfl (by (try simp only [List.map_toArray, List.map_cons, List.map_nil]); first | done | rfl | (simp only [List.length_drop, List.length_take]; rfl)) ?_; (with_reducible refine (spec_GramFor.calls k t307 _ _ t308 t311 t316 _ ?side1 ?side2 A11.out).mono ?_); (case side1 => repeat (first | exact (Kd.R_reads' HO310.out).2.2 | (with_reducible refine Kd.C_alloc ?_ _) | (with_reducible refine Kd.C_drewN ?_ _) | (with_reducible refine Kd.C_drew ?_))); (case side2 => exact (Kd.R_reads' HO310.out).2.1); rintro e w16 ⟨v317, rfl, ho0, hb⟩; refine ⟨_, rfl, ?_⟩; have n0_ := Aside0.mk (Kd.R_below (by (with_reducible repeat (first | apply Kd.R_alloc | apply Kd.R_drewN | apply Kd.R_drew)); exact HO310.out) hb); have n1_ := Aside0.mk (Kd.R_elder' (by (with_reducible repeat (first | apply Kd.R_alloc | apply Kd.R_drewN | apply Kd.R_drew)); exact HO315.out) (Kd.R_base ho0) hb); have n2_ := Aside0.mk (Kd.R_lower (Kd.R_new' ho0 (Kd.R_lt (by (with_reducible repeat (first | apply Kd.R_alloc | apply Kd.R_drewN | apply Kd.R_drew)); exact HO315.out))) (below_size (by repeat (first | (with_reducible first | exact HB.out | apply below_alloc | apply pw_below_drewN | apply below_drew1 | refine below_set ?_ GE312.out) | exact HB.out)))); have n3_ := Aside0.mk (blk_below (g := gb312) (o := .cells #[.string t307, .slice Ao9 t308.length co9] 39 (0, 0)) (by (with_reducible repeat (first | refine blk_drewN ?_ _ | refine blk_drew ?_ | refine blk_alloc ?_ _)); exact BK312.out) hb); have n4_ := Aside0.mk (below_step (by repeat (first | (with_reducible first | exact HB.out | apply below_alloc | apply pw_below_drewN | apply below_drew1 | refine below_set ?_ GE312.out) | exact HB.out)) hb); clear HO310; clear HO315; clear BK312; clear HB; have HO310 := n0_; have HO315 := n1_; have HO318 := n2_; have BK312 := n3_; have HB := n4_; clear n0_ n1_ n2_ n3_ n4_; (try clear hb); (try clear hb2); (try clear hk); (try clear hi); (try clear ho0); obtain ⟨Ao17, co17, eo17⟩ := Kd.R_slice HO315.out; subst eo17; obtain ⟨Ao18, co18, eo18⟩ := Kd.R_slice HO318.out; subst eo18) | ((with_reducible refine gate_callee (f := 26) rfl ?_); refine goesL_ (some 23) rfl rfl Tryd.func26 (by kernel_rfl) rfl #[.slice Ao17 t313.length co17, .slice Ao18 t316.length co18] rfl (by (try simp only [List.map_toArray, List.map_cons, List.map_nil]); first | done | rfl | (simp only [List.length_drop, List.length_take]; rfl)) ?_; (with_reducible refine (laws_wpNums.calls k _ _ t313 _ _ t316 true _ ?side1 ?side2 ?side3 ?side4 A12.out).mono ?_); (case side1 => repeat (first | exact (Kd.R_reads' HO315.out).2.2 | (with_reducible refine Kd.C_alloc ?_ _) | (with_reducible refine Kd.C_drewN ?_ _) | (with_reducible refine Kd.C_drew ?_))); (case side2 => exact (Kd.R_reads' HO315.out).2.1); (case side3 => repeat (first | exact (Kd.R_reads' HO318.out).2.2 | (with_reducible refine Kd.C_alloc ?_ _) | (with_reducible refine Kd.C_drewN ?_ _) | (with_reducible refine Kd.C_drew ?_))); (case side4 => exact (Kd.R_reads' HO318.out).2.1); rintro e w' ⟨rfl, ⟨nd, rfl⟩⟩; refine ⟨_, rfl, ?_⟩; have hcz19_0 : w16.cell? ⟨gb312, 0, none⟩ = some (.string t307) := (blk_cell BK312.out 0).trans rfl; have hcz19_1 : w16.cell? ⟨gb312, 1, none⟩ = some (.slice Ao9 t308.length co9) := (blk_cell BK312.out 1).trans rfl; have hfz19_0 := blk_frozen BK312.out 0; have hfz19_1 := blk_frozen BK312.out 1) | (go_at_call 22; (with_reducible refine (spec_GramOk.calls k t307 _ _ t308 t320 _ ?side1 ?side2 A14.out).mono ?_); (case side1 => repeat (first | exact (Kd.R_reads' HO310.out).2.2 | (with_reducible refine Kd.C_alloc ?_ _) | (with_reducible refine Kd.C_drewN ?_ _) | (with_reducible refine Kd.C_drew ?_))); (case side2 => exact (Kd.R_reads' HO310.out).2.1); rintro e w20 ⟨rfl, hb⟩; have n0_ := Aside0.mk (Kd.R_below (by (with_reducible repeat (first | apply Kd.R_alloc | apply Kd.R_drewN | apply Kd.R_drew)); exact HO310.out) hb); have n1_ := Aside0.mk (Kd.R_below (by (with_reducible repeat (first | apply Kd.R_alloc | apply Kd.R_drewN | apply Kd.R_drew)); exact HO315.out) hb); have n2_ := Aside0.mk (Kd.R_below (by (with_reducible repeat (first | apply Kd.R_alloc | apply Kd.R_drewN | apply Kd.R_drew)); exact HO318.out) hb); have n3_ := Aside0.mk (blk_below (g := gb312) (o := .cells #[.string t307, .slice Ao9 t308.length co9] 39 (0, 0)) (by (with_reducible repeat (first | refine blk_drewN ?_ _ | refine blk_drew ?_ | refine blk_alloc ?_ _)); exact BK312.out) hb); have n4_ := Aside0.mk (below_step (by repeat (first | (with_reducible first | exact HB.out | apply below_alloc | apply pw_below_drewN | apply below_drew1 | refine below_set ?_ GE312.out) | exact HB.out)) hb); clear HO310; clear HO315; clear HO318; clear BK312; clear HB; have HO310 := n0_; have HO315 := n1_; have HO318 := n2_; have BK312 := n3_; have HB := n4_; clear n0_ n1_ n2_ n3_ n4_; (try clear hb); (try clear hb2); (try clear hk); (try clear hi)))
        go_meet
        case rel => exact ⟨_, (!t320), (by first | rfl | (simp; done) | (simp [*]; done)), H', ⟨by first | omega | exact Nat.le_refl _⟩, ⟨by (with_reducible repeat (first | apply Kd.R_alloc | apply Kd.R_drewN | apply Kd.R_drew)); exact Kd.R_mono HO315.out (fun _ hk => trivial)⟩, ⟨by (with_reducible repeat (first | apply Kd.R_alloc | apply Kd.R_drewN | apply Kd.R_drew)); exact HO310.out⟩, ⟨by (with_reducible repeat (first | refine blk_drewN ?_ _ | refine blk_drew ?_ | refine blk_alloc ?_ _)); exact BK312.out⟩, ⟨by repeat (first | (with_reducible first | exact HB.out | apply below_alloc | apply pw_below_drewN | apply below_drew1 | refine below_set ?_ GE312.out) | exact HB.out)⟩⟩
      · replace c13 := Bool.eq_false_iff.mpr c13
        subst c13
        have H1 : (laws_FnGramFor.j0 k t311 t313 true t307 t308) = some r := by rw [if_neg (show ¬ (false = true) by decide)] at H; exact H
        clear H
        have H := H1
        clear H1
        have H' := Aside0.mk H
        clear H
        have hcz21_0 : w10.cell? ⟨gb312, 0, none⟩ = some (.string t307) := (blk_cell BK312.out 0).trans rfl
        have hcz21_1 : w10.cell? ⟨gb312, 1, none⟩ = some (.slice Ao9 t308.length co9) := (blk_cell BK312.out 1).trans rfl
        have hfz21_0 := blk_frozen BK312.out 0
        have hfz21_1 := blk_frozen BK312.out 1
        go_wp2_with (first | ((with_reducible refine gate_callee (f := 27) rfl ?_); refine goesL_ (some 22) rfl rfl Tryd.func27 (by kernel_rfl) rfl #[.agg #[.string t307, .slice Ao9 t308.length co9], .string t311] rfl (by (try simp only [List.map_toArray, List.map_cons, List.map_nil]); first | done | rfl | (simp only [List.length_drop, List.length_take]; rfl)) ?_; (with_reducible refine (spec_GramFor.calls k t307 _ _ t308 t311 t316 _ ?side1 ?side2 A11.out).mono ?_); (case side1 => repeat (first | exact (Kd.R_reads' HO310.out).2.2 | (with_reducible refine Kd.C_alloc ?_ _) | (with_reducible refine Kd.C_drewN ?_ _) | (with_reducible refine Kd.C_drew ?_))); (case side2 => exact (Kd.R_reads' HO310.out).2.1); rintro e w22 ⟨v317, rfl, ho0, hb⟩; refine ⟨_, rfl, ?_⟩; have n0_ := Aside0.mk (Kd.R_below (by (with_reducible repeat (first | apply Kd.R_alloc | apply Kd.R_drewN | apply Kd.R_drew)); exact HO310.out) hb); have n1_ := Aside0.mk (Kd.R_elder' (by (with_reducible repeat (first | apply Kd.R_alloc | apply Kd.R_drewN | apply Kd.R_drew)); exact HO315.out) (Kd.R_base ho0) hb); have n2_ := Aside0.mk (Kd.R_lower (Kd.R_new' ho0 (Kd.R_lt (by (with_reducible repeat (first | apply Kd.R_alloc | apply Kd.R_drewN | apply Kd.R_drew)); exact HO315.out))) (below_size (by repeat (first | (with_reducible first | exact HB.out | apply below_alloc | apply pw_below_drewN | apply below_drew1 | refine below_set ?_ GE312.out) | exact HB.out)))); have n3_ := Aside0.mk (blk_below (g := gb312) (o := .cells #[.string t307, .slice Ao9 t308.length co9] 39 (0, 0)) (by (with_reducible repeat (first | refine blk_drewN ?_ _ | refine blk_drew ?_ | refine blk_alloc ?_ _)); exact BK312.out) hb); have n4_ := Aside0.mk (below_step (by repeat (first | (with_reducible first | exact HB.out | apply below_alloc | apply pw_below_drewN | apply below_drew1 | refine below_set ?_ GE312.out) | exact HB.out)) hb); clear HO310; clear HO315; clear BK312; clear HB; have HO310 := n0_; have HO315 := n1_; have HO318 := n2_; have BK312 := n3_; have HB := n4_; clear n0_ n1_ n2_ n3_ n4_; (try clear hb); (try clear hb2); (try clear hk); (try clear hi); (try clear ho0); obtain ⟨Ao23, co23, eo23⟩ := Kd.R_slice HO315.out; subst eo23; obtain ⟨Ao24, co24, eo24⟩ := Kd.R_slice HO318.out; subst eo24) | ((with_reducible refine gate_callee (f := 26) rfl ?_); refine goesL_ (some 23) rfl rfl Tryd.func26 (by kernel_rfl) rfl #[.slice Ao23 t313.length co23, .slice Ao24 t316.length co24] rfl (by (try simp only [List.map_toArray, List.map_cons, List.map_nil]); first | done | rfl | (simp only [List.length_drop, List.length_take]; rfl)) ?_; (with_reducible refine (laws_wpNums.calls k _ _ t313 _ _ t316 false _ ?side1 ?side2 ?side3 ?side4 A12.out).mono ?_); (case side1 => repeat (first | exact (Kd.R_reads' HO315.out).2.2 | (with_reducible refine Kd.C_alloc ?_ _) | (with_reducible refine Kd.C_drewN ?_ _) | (with_reducible refine Kd.C_drew ?_))); (case side2 => exact (Kd.R_reads' HO315.out).2.1); (case side3 => repeat (first | exact (Kd.R_reads' HO318.out).2.2 | (with_reducible refine Kd.C_alloc ?_ _) | (with_reducible refine Kd.C_drewN ?_ _) | (with_reducible refine Kd.C_drew ?_))); (case side4 => exact (Kd.R_reads' HO318.out).2.1); rintro e w' ⟨rfl, ⟨nd, rfl⟩⟩; refine ⟨_, rfl, ?_⟩))
        go_meet
        case rel => exact ⟨_, (true), (by first | rfl | (simp; done) | (simp [*]; done)), H', ⟨by first | omega | exact Nat.le_refl _⟩, ⟨by (with_reducible repeat (first | apply Kd.R_alloc | apply Kd.R_drewN | apply Kd.R_drew)); exact Kd.R_mono HO315.out (fun _ hk => trivial)⟩, ⟨by (with_reducible repeat (first | apply Kd.R_alloc | apply Kd.R_drewN | apply Kd.R_drew)); exact HO310.out⟩, ⟨by (with_reducible repeat (first | refine blk_drewN ?_ _ | refine blk_drew ?_ | refine blk_alloc ?_ _)); exact BK312.out⟩, ⟨by repeat (first | (with_reducible first | exact HB.out | apply below_alloc | apply pw_below_drewN | apply below_drew1 | refine below_set ?_ GE312.out) | exact HB.out)⟩⟩
    case rest =>
      clear HC5
      try clear c1
      try clear c2
      try clear c2b0
      try clear c2b1
      try clear p2
      try clear c7
      try clear c13
      try clear c24
      try clear hcz15_0
      try clear hcz15_1
      try clear hcz19_0
      try clear hcz19_1
      try clear hcz21_0
      try clear hcz21_1
      try clear hcz8_0
      try clear hcz8_1
      try clear hfz15_0
      try clear hfz15_1
      try clear hfz19_0
      try clear hfz19_1
      try clear hfz21_0
      try clear hfz21_1
      try clear hfz8_0
      try clear hfz8_1
      obtain ⟨kq, x29_4, rfl, HA, HJ4, HO_5, HO_313001, BK312, HB⟩ := hcut
      cases kq with
      | zero => exact absurd HA.out (by simp [laws_FnGramFor.j0])
      | succ kj4 =>
        have H := HA.out
        clear HA
        simp only [laws_FnGramFor.j0] at H
        by_cases c25 : x29_4 = true
        · subst c25
          have H1 : ((spec_GramFor.f kj4 t307 t308 t311).bind fun t321 => ((laws_wpNums.f kj4 t313 t321).bind fun t324 => (some t324))) = some r := by rw [if_pos rfl] at H; exact H
          clear H
          have H := H1
          clear H1
          replace H := Option.bind_eq_some_iff.mp H
          obtain ⟨t321, A260, H⟩ := H
          replace H : ((laws_wpNums.f kj4 t313 t321).bind fun t324 => (some t324)) = some r := H
          have A26 := Aside0.mk A260
          clear A260
          replace H := Option.bind_eq_some_iff.mp H
          obtain ⟨t324, A270, H⟩ := H
          replace H : (some t324) = some r := H
          have A27 := Aside0.mk A270
          clear A270
          obtain rfl := Option.some.inj H
          have hcz28_0 : wc.cell? ⟨gb312, 0, none⟩ = some (.string t307) := (blk_cell BK312.out 0).trans rfl
          have hcz28_1 : wc.cell? ⟨gb312, 1, none⟩ = some (.slice Ao9 t308.length co9) := (blk_cell BK312.out 1).trans rfl
          have hfz28_0 := blk_frozen BK312.out 0
          have hfz28_1 := blk_frozen BK312.out 1
          go_wp2_with (first | ((with_reducible refine gate_callee (f := 27) rfl ?_); refine goesL_ (some 33) rfl rfl Tryd.func27 (by kernel_rfl) rfl #[.agg #[.string t307, .slice Ao9 t308.length co9], .string t311] rfl (by (try simp only [List.map_toArray, List.map_cons, List.map_nil]); first | done | rfl | (simp only [List.length_drop, List.length_take]; rfl)) ?_; (with_reducible refine (spec_GramFor.calls kj4 t307 _ _ t308 t311 t321 _ ?side1 ?side2 A26.out).mono ?_); (case side1 => repeat (first | exact (Kd.R_reads' HO_313001.out).2.2 | (with_reducible refine Kd.C_alloc ?_ _) | (with_reducible refine Kd.C_drewN ?_ _) | (with_reducible refine Kd.C_drew ?_))); (case side2 => exact (Kd.R_reads' HO_313001.out).2.1); rintro e w29 ⟨v322, rfl, ho0, hb⟩; refine ⟨_, rfl, ?_⟩; have n0_ := Aside0.mk (Kd.R_elder' (by (with_reducible repeat (first | apply Kd.R_alloc | apply Kd.R_drewN | apply Kd.R_drew)); exact HO_5.out) (Kd.R_base ho0) hb); have n1_ := Aside0.mk (Kd.R_below (by (with_reducible repeat (first | apply Kd.R_alloc | apply Kd.R_drewN | apply Kd.R_drew)); exact HO_313001.out) hb); have n2_ := Aside0.mk (Kd.R_lower (Kd.R_new' ho0 (Kd.R_lt (by (with_reducible repeat (first | apply Kd.R_alloc | apply Kd.R_drewN | apply Kd.R_drew)); exact HO_5.out))) (below_size (by repeat (first | (with_reducible first | exact HB.out | apply below_alloc | apply pw_below_drewN | apply below_drew1 | refine below_set ?_ GE312.out) | exact HB.out)))); have n3_ := Aside0.mk (blk_below (g := gb312) (o := .cells #[.string t307, .slice Ao9 t308.length co9] 39 (0, 0)) (by (with_reducible repeat (first | refine blk_drewN ?_ _ | refine blk_drew ?_ | refine blk_alloc ?_ _)); exact BK312.out) hb); have n4_ := Aside0.mk (below_step (by repeat (first | (with_reducible first | exact HB.out | apply below_alloc | apply pw_below_drewN | apply below_drew1 | refine below_set ?_ GE312.out) | exact HB.out)) hb); clear HO_5; clear HO_313001; clear BK312; clear HB; have HO_5 := n0_; have HO_313001 := n1_; have HO323 := n2_; have BK312 := n3_; have HB := n4_; clear n0_ n1_ n2_ n3_ n4_; (try clear hb); (try clear hb2); (try clear hk); (try clear hi); (try clear ho0); obtain ⟨Ao30, co30, eo30⟩ := Kd.R_slice HO_5.out; subst eo30; obtain ⟨Ao31, co31, eo31⟩ := Kd.R_slice HO323.out; subst eo31) | ((with_reducible refine gate_callee (f := 26) rfl ?_); refine goesL_ (some 34) rfl rfl Tryd.func26 (by kernel_rfl) rfl #[.slice Ao30 t313.length co30, .slice Ao31 t321.length co31] rfl (by (try simp only [List.map_toArray, List.map_cons, List.map_nil]); first | done | rfl | (simp only [List.length_drop, List.length_take]; rfl)) ?_; (with_reducible refine (laws_wpNums.calls kj4 _ _ t313 _ _ t321 t324 _ ?side1 ?side2 ?side3 ?side4 A27.out).mono ?_); (case side1 => repeat (first | exact (Kd.R_reads' HO_5.out).2.2 | (with_reducible refine Kd.C_alloc ?_ _) | (with_reducible refine Kd.C_drewN ?_ _) | (with_reducible refine Kd.C_drew ?_))); (case side2 => exact (Kd.R_reads' HO_5.out).2.1); (case side3 => repeat (first | exact (Kd.R_reads' HO323.out).2.2 | (with_reducible refine Kd.C_alloc ?_ _) | (with_reducible refine Kd.C_drewN ?_ _) | (with_reducible refine Kd.C_drew ?_))); (case side4 => exact (Kd.R_reads' HO323.out).2.1); rintro e w' ⟨rfl, ⟨nd, rfl⟩⟩; refine ⟨_, rfl, ?_⟩))
          go_ret
          exact ⟨by first | rfl | (simp [errW_none, errW_some] <;> rfl) | (simp [*, errW_none, errW_some] <;> rfl), by repeat (first | (with_reducible first | exact HB.out | apply below_alloc | apply pw_below_drewN | apply below_drew1 | refine below_set ?_ GE312.out) | exact HB.out)⟩
        · replace c25 := Bool.eq_false_iff.mpr c25
          subst c25
          have H1 : (laws_FnGramFor.l0 kj4 t311 t313 0 0 t307 t308) = some r := by rw [if_neg (show ¬ (false = true) by decide)] at H; exact H
          clear H
          have H := H1
          clear H1
          have H' := Aside0.mk H
          clear H
          go_wp2
          go_loopg [6, 7] kj4 (fun kq v6 v7 w' => ∃ (x6_2 : Int) (x7_2 : Int), v6 = .int .i64 x6_2 ∧ v7 = .int .i64 x7_2 ∧ Aside0 (laws_FnGramFor.l0 kq t311 t313 x6_2 x7_2 t307 t308 = some r) ∧ Aside0 (kq ≤ kj4) ∧ Aside0 (Kd.R (Kd.int .i64) 3 w' w.heap.size (fun _ => True) v314 t313) ∧ Aside0 (Kd.R k42 42 w' w.heap.size (fun _ => True) (.slice Ao9 t308.length co9) t308) ∧ Aside0 (w'.heap[gb312]? = some (.cells #[.string t307, (.slice Ao9 t308.length co9)] 39 (0, 0))) ∧ Aside0 (Below w.heap.size w w'))
          case atStart => exact ⟨(0), (0), (by first | rfl | (simp; done) | (simp [*]; done)), (by first | rfl | (simp; done) | (simp [*]; done)), H', ⟨Nat.le_refl _⟩, ⟨by (with_reducible repeat (first | apply Kd.R_alloc | apply Kd.R_drewN | apply Kd.R_drew)); exact HO_5.out⟩, ⟨by (with_reducible repeat (first | apply Kd.R_alloc | apply Kd.R_drewN | apply Kd.R_drew)); exact HO_313001.out⟩, ⟨by (with_reducible repeat (first | refine blk_drewN ?_ _ | refine blk_drew ?_ | refine blk_alloc ?_ _)); exact BK312.out⟩, ⟨by repeat (first | (with_reducible first | exact HB.out | apply below_alloc | apply pw_below_drewN | apply below_drew1 | refine below_set ?_ GE312.out) | exact HB.out)⟩⟩
          case round =>
            clear H'
            try clear c1
            try clear c2
            try clear c2b0
            try clear c2b1
            try clear p2
            try clear c7
            try clear c13
            try clear c24
            try clear c25
            try clear c26
            try clear c27
            try clear hcz15_0
            try clear hcz15_1
            try clear hcz19_0
            try clear hcz19_1
            try clear hcz21_0
            try clear hcz21_1
            try clear hcz28_0
            try clear hcz28_1
            try clear hcz8_0
            try clear hcz8_1
            try clear hfz15_0
            try clear hfz15_1
            try clear hfz19_0
            try clear hfz19_1
            try clear hfz21_0
            try clear hfz21_1
            try clear hfz28_0
            try clear hfz28_1
            try clear hfz8_0
            try clear hfz8_1
            try clear p2
            obtain ⟨x6_2, x7_2, rfl, rfl, HA, HK2, HO_5, HO_313001, BK312, HB⟩ := hrel
            cases gk with
            | zero => exact absurd HA.out (by simp [laws_FnGramFor.l0])
            | succ k2 =>
              have H := HA.out
              clear HA
              simp only [laws_FnGramFor.l0] at H
              by_cases c32 : x7_2 < (t308.length : Int)
              · rw [if_pos c32] at H
                have c32b0 : decide (x7_2 < (t308.length : Int)) = true := decide_eq_true c32
                clear c32
                by_cases c33 : 0 ≤ x7_2
                · rw [if_pos c33] at H
                  have c33b0 : decide (0 ≤ x7_2) = true := decide_eq_true c33
                  clear c33
                  by_cases c34 : ((rd_T42 t308 x7_2).f0).toList = t311.toList
                  · rw [if_pos c34] at H
                    have c34b0 : (((rd_T42 t308 x7_2).f0).toList == t311.toList) = true := beq_iff_eq.mpr c34
                    have c34b1 : (((rd_T42 t308 x7_2).f0).toList != t311.toList) = false := bne_eq_false_iff_eq.mpr c34
                    clear c34
                    by_cases c35 : x6_2 ≥ (t313.length : Int)
                    · rw [if_pos c35] at H
                      have c35b0 : decide ((t313.length : Int) ≤ x6_2) = true := decide_eq_true c35
                      clear c35
                      obtain rfl := Option.some.inj H
                      have hcz36_0 : wr.cell? ⟨gb312, 0, none⟩ = some (.string t307) := (blk_cell BK312.out 0).trans rfl
                      have hcz36_1 : wr.cell? ⟨gb312, 1, none⟩ = some (.slice Ao9 t308.length co9) := (blk_cell BK312.out 1).trans rfl
                      have hfz36_0 := blk_frozen BK312.out 0
                      have hfz36_1 := blk_frozen BK312.out 1
                      have p326 : 0 ≤ (x7_2 : Int) := of_decide_eq_true (by first | (with_reducible assumption) | assumption)
                      have q326 : x7_2 < (t308.length : Int) := of_decide_eq_true (by first | (with_reducible assumption) | assumption)
                      obtain ⟨ad326, e326, hx326_0, hx326_1⟩ := at_T42 (Kd.R_reads' HO_313001.out).2.2 x7_2 p326 q326
                      cases e326
                      replace p326 := eq_true p326
                      replace q326 := eq_true q326
                      obtain ⟨Ao37, co37, eo37⟩ := Kd.R_slice HO_5.out
                      subst eo37
                      go_wp2
                      go_ret
                      exact ⟨by first | rfl | (simp [errW_none, errW_some] <;> rfl) | (simp [*, errW_none, errW_some] <;> rfl), by repeat (first | (with_reducible first | exact HB.out | apply below_alloc | apply pw_below_drewN | apply below_drew1 | refine below_set ?_ GE312.out) | exact HB.out)⟩
                    · rw [if_neg c35] at H
                      have c35b0 : decide ((t313.length : Int) ≤ x6_2) = false := decide_eq_false c35
                      clear c35
                      by_cases c38 : 0 ≤ x6_2
                      · rw [if_pos c38] at H
                        have c38b0 : decide (0 ≤ x6_2) = true := decide_eq_true c38
                        clear c38
                        by_cases c39 : x6_2 < (t313.length : Int)
                        · rw [if_pos c39] at H
                          have c39b0 : decide (x6_2 < (t313.length : Int)) = true := decide_eq_true c39
                          clear c39
                          by_cases c40 : (rd t313 x6_2) = x7_2
                          · rw [if_pos c40] at H
                            have c40b0 : ((rd t313 x6_2) == x7_2) = true := beq_iff_eq.mpr c40
                            have c40b1 : ((rd t313 x6_2) != x7_2) = false := bne_eq_false_iff_eq.mpr c40
                            clear c40
                            have H' := Aside0.mk H
                            clear H
                            have hcz41_0 : wr.cell? ⟨gb312, 0, none⟩ = some (.string t307) := (blk_cell BK312.out 0).trans rfl
                            have hcz41_1 : wr.cell? ⟨gb312, 1, none⟩ = some (.slice Ao9 t308.length co9) := (blk_cell BK312.out 1).trans rfl
                            have hfz41_0 := blk_frozen BK312.out 0
                            have hfz41_1 := blk_frozen BK312.out 1
                            have p326 : 0 ≤ (x7_2 : Int) := of_decide_eq_true (by first | (with_reducible assumption) | assumption)
                            have q326 : x7_2 < (t308.length : Int) := of_decide_eq_true (by first | (with_reducible assumption) | assumption)
                            obtain ⟨ad326, e326, hx326_0, hx326_1⟩ := at_T42 (Kd.R_reads' HO_313001.out).2.2 x7_2 p326 q326
                            cases e326
                            replace p326 := eq_true p326
                            replace q326 := eq_true q326
                            obtain ⟨Ao42, co42, eo42⟩ := Kd.R_slice HO_5.out
                            subst eo42
                            have p327 : 0 ≤ (x6_2 : Int) := of_decide_eq_true (by first | (with_reducible assumption) | assumption)
                            have q327 : x6_2 < (t313.length : Int) := of_decide_eq_true (by first | (with_reducible assumption) | assumption)
                            obtain ⟨ad327, e327, hx327_0⟩ := Kd.at_int (Kd.R_reads' HO_5.out).2.2 x6_2 p327 q327
                            cases e327
                            replace p327 := eq_true p327
                            replace q327 := eq_true q327
                            go_wp2
                            go_roundg k2
                            case measure => have := HJ4.out; have := HK2.out; omega
                            case rel => exact ⟨(wrap64 (x6_2 + 1)), (wrap64 (x7_2 + 1)), (by first | rfl | (simp; done) | (simp [*]; done)), (by first | rfl | (simp; done) | (simp [*]; done)), H', ⟨by have := HJ4.out; have := HK2.out; omega⟩, ⟨by (with_reducible repeat (first | apply Kd.R_alloc | apply Kd.R_drewN | apply Kd.R_drew)); exact HO_5.out⟩, ⟨by (with_reducible repeat (first | apply Kd.R_alloc | apply Kd.R_drewN | apply Kd.R_drew)); exact HO_313001.out⟩, ⟨by (with_reducible repeat (first | refine blk_drewN ?_ _ | refine blk_drew ?_ | refine blk_alloc ?_ _)); exact BK312.out⟩, ⟨by repeat (first | (with_reducible first | exact HB.out | apply below_alloc | apply pw_below_drewN | apply below_drew1 | refine below_set ?_ GE312.out) | exact HB.out)⟩⟩
                          · rw [if_neg c40] at H
                            have c40b0 : ((rd t313 x6_2) == x7_2) = false := beq_eq_false_iff_ne.mpr c40
                            have c40b1 : ((rd t313 x6_2) != x7_2) = true := bne_iff_ne.mpr c40
                            obtain rfl := Option.some.inj H
                            have hcz43_0 : wr.cell? ⟨gb312, 0, none⟩ = some (.string t307) := (blk_cell BK312.out 0).trans rfl
                            have hcz43_1 : wr.cell? ⟨gb312, 1, none⟩ = some (.slice Ao9 t308.length co9) := (blk_cell BK312.out 1).trans rfl
                            have hfz43_0 := blk_frozen BK312.out 0
                            have hfz43_1 := blk_frozen BK312.out 1
                            have p326 : 0 ≤ (x7_2 : Int) := of_decide_eq_true (by first | (with_reducible assumption) | assumption)
                            have q326 : x7_2 < (t308.length : Int) := of_decide_eq_true (by first | (with_reducible assumption) | assumption)
                            obtain ⟨ad326, e326, hx326_0, hx326_1⟩ := at_T42 (Kd.R_reads' HO_313001.out).2.2 x7_2 p326 q326
                            cases e326
                            replace p326 := eq_true p326
                            replace q326 := eq_true q326
                            obtain ⟨Ao44, co44, eo44⟩ := Kd.R_slice HO_5.out
                            subst eo44
                            have p327 : 0 ≤ (x6_2 : Int) := of_decide_eq_true (by first | (with_reducible assumption) | assumption)
                            have q327 : x6_2 < (t313.length : Int) := of_decide_eq_true (by first | (with_reducible assumption) | assumption)
                            obtain ⟨ad327, e327, hx327_0⟩ := Kd.at_int (Kd.R_reads' HO_5.out).2.2 x6_2 p327 q327
                            cases e327
                            replace p327 := eq_true p327
                            replace q327 := eq_true q327
                            go_wp2
                            go_ret
                            exact ⟨by first | rfl | (simp [errW_none, errW_some] <;> rfl) | (simp [*, errW_none, errW_some] <;> rfl), by repeat (first | (with_reducible first | exact HB.out | apply below_alloc | apply pw_below_drewN | apply below_drew1 | refine below_set ?_ GE312.out) | exact HB.out)⟩
                        · rw [if_neg c39] at H
                          exact absurd H (by simp)
                      · rw [if_neg c38] at H
                        exact absurd H (by simp)
                  · rw [if_neg c34] at H
                    have c34b0 : (((rd_T42 t308 x7_2).f0).toList == t311.toList) = false := beq_eq_false_iff_ne.mpr c34
                    have c34b1 : (((rd_T42 t308 x7_2).f0).toList != t311.toList) = true := bne_iff_ne.mpr c34
                    have H' := Aside0.mk H
                    clear H
                    have hcz45_0 : wr.cell? ⟨gb312, 0, none⟩ = some (.string t307) := (blk_cell BK312.out 0).trans rfl
                    have hcz45_1 : wr.cell? ⟨gb312, 1, none⟩ = some (.slice Ao9 t308.length co9) := (blk_cell BK312.out 1).trans rfl
                    have hfz45_0 := blk_frozen BK312.out 0
                    have hfz45_1 := blk_frozen BK312.out 1
                    have p326 : 0 ≤ (x7_2 : Int) := of_decide_eq_true (by first | (with_reducible assumption) | assumption)
                    have q326 : x7_2 < (t308.length : Int) := of_decide_eq_true (by first | (with_reducible assumption) | assumption)
                    obtain ⟨ad326, e326, hx326_0, hx326_1⟩ := at_T42 (Kd.R_reads' HO_313001.out).2.2 x7_2 p326 q326
                    cases e326
                    replace p326 := eq_true p326
                    replace q326 := eq_true q326
                    go_wp2
                    go_roundg k2
                    case measure => have := HJ4.out; have := HK2.out; omega
                    case rel => exact ⟨(x6_2), (wrap64 (x7_2 + 1)), (by first | rfl | (simp; done) | (simp [*]; done)), (by first | rfl | (simp; done) | (simp [*]; done)), H', ⟨by have := HJ4.out; have := HK2.out; omega⟩, ⟨by (with_reducible repeat (first | apply Kd.R_alloc | apply Kd.R_drewN | apply Kd.R_drew)); exact HO_5.out⟩, ⟨by (with_reducible repeat (first | apply Kd.R_alloc | apply Kd.R_drewN | apply Kd.R_drew)); exact HO_313001.out⟩, ⟨by (with_reducible repeat (first | refine blk_drewN ?_ _ | refine blk_drew ?_ | refine blk_alloc ?_ _)); exact BK312.out⟩, ⟨by repeat (first | (with_reducible first | exact HB.out | apply below_alloc | apply pw_below_drewN | apply below_drew1 | refine below_set ?_ GE312.out) | exact HB.out)⟩⟩
                · rw [if_neg c33] at H
                  exact absurd H (by simp)
              · rw [if_neg c32] at H
                have c32b0 : decide (x7_2 < (t308.length : Int)) = false := decide_eq_false c32
                clear c32
                by_cases c46 : x6_2 = (t313.length : Int)
                · rw [if_pos c46] at H
                  have c46b0 : (x6_2 == (t313.length : Int)) = true := beq_iff_eq.mpr c46
                  have c46b1 : (x6_2 != (t313.length : Int)) = false := bne_eq_false_iff_eq.mpr c46
                  clear c46
                  by_cases c47 : x6_2 = 0
                  · rw [if_pos c47] at H
                    have c47b0 : (x6_2 == 0) = true := beq_iff_eq.mpr c47
                    have c47b1 : (x6_2 != 0) = false := bne_eq_false_iff_eq.mpr c47
                    clear c47
                    obtain rfl := Option.some.inj H
                    have hcz48_0 : wr.cell? ⟨gb312, 0, none⟩ = some (.string t307) := (blk_cell BK312.out 0).trans rfl
                    have hcz48_1 : wr.cell? ⟨gb312, 1, none⟩ = some (.slice Ao9 t308.length co9) := (blk_cell BK312.out 1).trans rfl
                    have hfz48_0 := blk_frozen BK312.out 0
                    have hfz48_1 := blk_frozen BK312.out 1
                    obtain ⟨Ao49, co49, eo49⟩ := Kd.R_slice HO_5.out
                    subst eo49
                    go_wp2
                    go_ret
                    exact ⟨by first | rfl | (simp [errW_none, errW_some] <;> rfl) | (simp [*, errW_none, errW_some] <;> rfl), by repeat (first | (with_reducible first | exact HB.out | apply below_alloc | apply pw_below_drewN | apply below_drew1 | refine below_set ?_ GE312.out) | exact HB.out)⟩
                  · rw [if_neg c47] at H
                    have c47b0 : (x6_2 == 0) = false := beq_eq_false_iff_ne.mpr c47
                    have c47b1 : (x6_2 != 0) = true := bne_iff_ne.mpr c47
                    replace H := Option.bind_eq_some_iff.mp H
                    obtain ⟨t325, A500, H⟩ := H
                    replace H : (some t325) = some r := H
                    have A50 := Aside0.mk A500
                    clear A500
                    obtain rfl := Option.some.inj H
                    have hcz51_0 : wr.cell? ⟨gb312, 0, none⟩ = some (.string t307) := (blk_cell BK312.out 0).trans rfl
                    have hcz51_1 : wr.cell? ⟨gb312, 1, none⟩ = some (.slice Ao9 t308.length co9) := (blk_cell BK312.out 1).trans rfl
                    have hfz51_0 := blk_frozen BK312.out 0
                    have hfz51_1 := blk_frozen BK312.out 1
                    obtain ⟨Ao52, co52, eo52⟩ := Kd.R_slice HO_5.out
                    subst eo52
                    go_wp2_with (first | (go_at_call 28; (with_reducible refine (impl_SignBig.calls t311 t325 _ A50.out).mono ?_); rintro e w' ⟨rfl, ⟨nd, rfl⟩⟩))
                    go_ret
                    exact ⟨by first | rfl | (simp [errW_none, errW_some] <;> rfl) | (simp [*, errW_none, errW_some] <;> rfl), by repeat (first | (with_reducible first | exact HB.out | apply below_alloc | apply pw_below_drewN | apply below_drew1 | refine below_set ?_ GE312.out) | exact HB.out)⟩
                · rw [if_neg c46] at H
                  have c46b0 : (x6_2 == (t313.length : Int)) = false := beq_eq_false_iff_ne.mpr c46
                  have c46b1 : (x6_2 != (t313.length : Int)) = true := bne_iff_ne.mpr c46
                  obtain rfl := Option.some.inj H
                  have hcz53_0 : wr.cell? ⟨gb312, 0, none⟩ = some (.string t307) := (blk_cell BK312.out 0).trans rfl
                  have hcz53_1 : wr.cell? ⟨gb312, 1, none⟩ = some (.slice Ao9 t308.length co9) := (blk_cell BK312.out 1).trans rfl
                  have hfz53_0 := blk_frozen BK312.out 0
                  have hfz53_1 := blk_frozen BK312.out 1
                  obtain ⟨Ao54, co54, eo54⟩ := Kd.R_slice HO_5.out
                  subst eo54
                  go_wp2
                  go_ret
                  exact ⟨by first | rfl | (simp [errW_none, errW_some] <;> rfl) | (simp [*, errW_none, errW_some] <;> rfl), by repeat (first | (with_reducible first | exact HB.out | apply below_alloc | apply pw_below_drewN | apply below_drew1 | refine below_set ?_ GE312.out) | exact HB.out)⟩
def laws_FnGramFor.Pure : Prop := ∀ (l0 : List Int), l0.length ≤ maxLen → l0.length * 1 ≤ 140737488351232 → (∀ x ∈ l0, (Lit.int .u8 x).wf = true) → ∃ k, laws_FnGramFor.f k l0 = some true
theorem laws_FnGramFor.walk (P : laws_FnGramFor.Pure) (a0 : Option Addr) (len0 cap0 : Nat) (z0 : List Int) (w : World) (w0 : (a0 = none ∧ len0 = 0 ∧ cap0 = 0 ∧ z0 = []) ∨ ∃ x, a0 = some x ∧ len0 ≤ cap0 ∧ cap0 ≤ maxLen ∧ z0.length = cap0 ∧ (∀ i, i < z0.length → w.cell? (x.add i) = some (.int .u8 (z0.getD i 0))) ∧ ∀ n ∈ z0, (Lit.int .u8 n).wf = true) (y0 : len0 * 1 ≤ 140737488351232) :
    Calls Tryd.prog 7 #[.slice a0 len0 cap0] w fun e w' => e = .returned (.bool true) ∧ Below w.heap.size w w' := by
  obtain ⟨l0, rfl, hr0, hm0, hw0, hc0⟩ := ReadsInt.ofRowC w0
  obtain ⟨k, h⟩ := P l0 hm0 y0 hw0
  refine (laws_FnGramFor.calls k _ _ l0 true w (Kd.C_of_reads (d := (0 : Int)) (h1 := fun _ => rfl) hr0) hc0 h).mono ?_
  rintro e w' ⟨rfl, hd⟩
  exact ⟨rfl, hd⟩
end Go.Proofs.YtilogmimbdpnbaaDoor.PFnGramFor
