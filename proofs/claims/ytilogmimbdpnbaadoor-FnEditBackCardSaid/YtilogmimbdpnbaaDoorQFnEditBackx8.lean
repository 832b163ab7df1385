-- PRINTED by print.py (a twelfth state) out of the translation. Not trusted: Lean checks it.
import Derived.Test.YtilogmimbdpnbaaDoorQFnEditBackx0
import Derived.Test.YtilogmimbdpnbaaDoorQFnEditBackx1
import Derived.Test.YtilogmimbdpnbaaDoorQFnEditBackx3
import Derived.Test.YtilogmimbdpnbaaDoorQFnEditBackx4
import Derived.Test.YtilogmimbdpnbaaDoorQFnEditBackx5
import Derived.Test.YtilogmimbdpnbaaDoorQFnEditBackx6
import Derived.Test.YtilogmimbdpnbaaDoorQFnEditBackx7
namespace Go.Proofs.YtilogmimbdpnbaaDoor.PFnEditBack
open Go.RowKit Go.Proofs.YtilogmimbdpnbaaDoorW.PrintWords Go.Proofs.YtilogmimbdpnbaaDoorW.PrintLast Go.Proofs.YtilogmimbdpnbaaDoorW.PrintMore
attribute [local go_sem] max2_int min2_int max_two min_two max_three min_three max_four min_four   -- for this text's walks alone
set_option linter.unusedVariables false
set_option linter.unusedSimpArgs false

attribute [local go_sem high] eqA24
/-! ### laws_FnEditBack: function 3 -/
def laws_FnEditBack.j0 : Nat → ByteArray → ByteArray → Bool → ByteArray → Bool → Bool → Bool → Bool → Int → Int → ByteArray → Int → Int → ByteArray → Option (Bool)
  | 0, _, _, _, _, _, _, _, _, _, _, _, _, _, _ => none
  | k + 1, x3, x5, x6, x7, x8, x10, x12, x73, x240000, x240001, x240002, x245000, x245001, x245002 => if x73 = true then (if x5.toList = x7.toList then (if (x6 == x8) = true then (if (x240000 == x245000 && (x240001 == x245001 && (x240002.toList == x245002.toList))) = true then (if (x10 == x12) = true then (some (x10 == x6)) else (some false)) else (some false)) else (some false)) else (some false)) else ((impl_EditDo.f k x5 x240000 x240001 x240002).bind fun bt245 => (if bt245.2 = true then (if bt245.1.toList = x3.toList then ((impl_EditsFar.f k x3 x5).bind fun t247 => (some (t247 == 1))) else (some false)) else (some false)))
def laws_FnEditBack.f (k : Nat) (l0 : List Int) : Option (Bool) := if (l0.length : Int) > 1048576 then (some true) else ((spec_DrawEditBack.f k l0).bind fun bt226 => ((impl_EditDo.f k bt226.1 bt226.2.1 bt226.2.2.1 bt226.2.2.2).bind fun bt231 => ((spec_EditDo.f k bt226.1 bt226.2.1 bt226.2.2.1 bt226.2.2.2).bind fun bt233 => ((impl_EditBack.f k bt226.1 bt226.2.1 bt226.2.2.1 bt226.2.2.2).bind fun bt235 => ((spec_EditBack.f k bt226.1 bt226.2.1 bt226.2.2.1 bt226.2.2.2).bind fun bt240 => (if bt231.1.toList = bt233.1.toList then (if (bt231.2 != bt233.2) = true then (laws_FnEditBack.j0 k bt226.1 bt231.1 bt231.2 bt233.1 bt233.2 bt235.2.2.2 bt240.2.2.2 true bt235.1 bt235.2.1 bt235.2.2.1 bt240.1 bt240.2.1 bt240.2.2.1) else (if (!(bt235.1 == bt240.1) || (!(bt235.2.1 == bt240.2.1) || (!(bt235.2.2.1.toList == bt240.2.2.1.toList)))) = true then (laws_FnEditBack.j0 k bt226.1 bt231.1 bt231.2 bt233.1 bt233.2 bt235.2.2.2 bt240.2.2.2 true bt235.1 bt235.2.1 bt235.2.2.1 bt240.1 bt240.2.1 bt240.2.2.1) else (if (bt235.2.2.2 != bt240.2.2.2) = true then (laws_FnEditBack.j0 k bt226.1 bt231.1 bt231.2 bt233.1 bt233.2 bt235.2.2.2 bt240.2.2.2 true bt235.1 bt235.2.1 bt235.2.2.1 bt240.1 bt240.2.1 bt240.2.2.1) else (if (bt235.2.2.2 != bt231.2) = true then (laws_FnEditBack.j0 k bt226.1 bt231.1 bt231.2 bt233.1 bt233.2 bt235.2.2.2 bt240.2.2.2 true bt235.1 bt235.2.1 bt235.2.2.1 bt240.1 bt240.2.1 bt240.2.2.1) else (laws_FnEditBack.j0 k bt226.1 bt231.1 bt231.2 bt233.1 bt233.2 bt235.2.2.2 bt240.2.2.2 (!bt231.2) bt235.1 bt235.2.1 bt235.2.2.1 bt240.1 bt240.2.1 bt240.2.2.1))))) else (laws_FnEditBack.j0 k bt226.1 bt231.1 bt231.2 bt233.1 bt233.2 bt235.2.2.2 bt240.2.2.2 true bt235.1 bt235.2.1 bt235.2.2.1 bt240.1 bt240.2.1 bt240.2.2.1)))))))
theorem laws_FnEditBack.mono_l : ∀ k, (∀ y0 y1 y2 y3 y4 y5 y6 y7 y8 y9 y10 y11 y12 y13, LeO (laws_FnEditBack.j0 k y0 y1 y2 y3 y4 y5 y6 y7 y8 y9 y10 y11 y12 y13) (laws_FnEditBack.j0 (k + 1) y0 y1 y2 y3 y4 y5 y6 y7 y8 y9 y10 y11 y12 y13))
  | 0 => fun _ _ _ _ _ _ _ _ _ _ _ _ _ _ r h => by simp [laws_FnEditBack.j0] at h
  | k + 1 => by
    have ih0 := laws_FnEditBack.mono_l k
    · intro y0 y1 y2 y3 y4 y5 y6 y7 y8 y9 y10 y11 y12 y13
      unfold laws_FnEditBack.j0
      repeat' first
      | (with_reducible exact ih0 _ _ _ _ _ _ _ _ _ _ _ _ _ _)
      | (with_reducible exact impl_EditBack.mono _ _ _ _ _)
      | (with_reducible exact impl_EditDo.mono _ _ _ _ _)
      | (with_reducible exact impl_EditsFar.mono _ _ _)
      | (with_reducible exact spec_DrawEditBack.mono _ _)
      | (with_reducible exact spec_EditBack.mono _ _ _ _ _)
      | (with_reducible exact spec_EditDo.mono _ _ _ _ _)
      | (with_reducible exact LeO.refl _)
      | (with_reducible exact LeO.none _)
      | (with_reducible refine LeO.ite ?_ ?_)
      | (with_reducible refine LeO.bind ?_ (fun _ => ?_))
      | exact ih0 _ _ _ _ _ _ _ _ _ _ _ _ _ _
      | exact impl_EditBack.mono _ _ _ _ _
      | exact impl_EditDo.mono _ _ _ _ _
      | exact impl_EditsFar.mono _ _ _
      | exact spec_DrawEditBack.mono _ _
      | exact spec_EditBack.mono _ _ _ _ _
      | exact spec_EditDo.mono _ _ _ _ _
      | exact LeO.none _
      | refine LeO.ite ?_ ?_
      | refine LeO.bind ?_ (fun _ => ?_)
theorem laws_FnEditBack.mono : ∀ a0 k, LeO (laws_FnEditBack.f k a0) (laws_FnEditBack.f (k + 1) a0) := by
  intro a0 k
  have ih0 := laws_FnEditBack.mono_l k
  unfold laws_FnEditBack.f
  repeat' first
      | (with_reducible exact ih0 _ _ _ _ _ _ _ _ _ _ _ _ _ _)
      | (with_reducible exact impl_EditBack.mono _ _ _ _ _)
      | (with_reducible exact impl_EditDo.mono _ _ _ _ _)
      | (with_reducible exact impl_EditsFar.mono _ _ _)
      | (with_reducible exact spec_DrawEditBack.mono _ _)
      | (with_reducible exact spec_EditBack.mono _ _ _ _ _)
      | (with_reducible exact spec_EditDo.mono _ _ _ _ _)
      | (with_reducible exact LeO.refl _)
      | (with_reducible exact LeO.none _)
      | (with_reducible refine LeO.ite ?_ ?_)
      | (with_reducible refine LeO.bind ?_ (fun _ => ?_))
      | exact ih0 _ _ _ _ _ _ _ _ _ _ _ _ _ _
      | exact impl_EditBack.mono _ _ _ _ _
      | exact impl_EditDo.mono _ _ _ _ _
      | exact impl_EditsFar.mono _ _ _
      | exact spec_DrawEditBack.mono _ _
      | exact spec_EditBack.mono _ _ _ _ _
      | exact spec_EditDo.mono _ _ _ _ _
      | exact LeO.none _
      | refine LeO.ite ?_ ?_
      | refine LeO.bind ?_ (fun _ => ?_)
set_option maxHeartbeats 8000000 in
set_option maxRecDepth 100000 in
theorem laws_FnEditBack.calls (k : Nat) (A0 : Option Addr) (c0 : Nat) (l0 : List Int) (r : Bool) (w : World) (hr0 : Kd.C (Kd.int .u8) w A0 l0.length l0) (hc0 : l0.length ≤ c0) (h : laws_FnEditBack.f k l0 = some r) :
    Calls Tryd.prog 3 #[.slice A0 l0.length c0] w fun e w' => e = .returned (.bool r) ∧ Below w.heap.size w w' := by
  have hu24 := Tryd.underlying24
  have HR0 := Aside0.mk hr0
  have HC0 := Aside0.mk hc0
  clear hr0 hc0
  have HB := Aside0.mk (Below.refl w.heap.size w)
  have H : (if (l0.length : Int) > 1048576 then (some true) else ((spec_DrawEditBack.f k l0).bind fun bt226 => ((impl_EditDo.f k bt226.1 bt226.2.1 bt226.2.2.1 bt226.2.2.2).bind fun bt231 => ((spec_EditDo.f k bt226.1 bt226.2.1 bt226.2.2.1 bt226.2.2.2).bind fun bt233 => ((impl_EditBack.f k bt226.1 bt226.2.1 bt226.2.2.1 bt226.2.2.2).bind fun bt235 => ((spec_EditBack.f k bt226.1 bt226.2.1 bt226.2.2.1 bt226.2.2.2).bind fun bt240 => (if bt231.1.toList = bt233.1.toList then (if (bt231.2 != bt233.2) = true then (laws_FnEditBack.j0 k bt226.1 bt231.1 bt231.2 bt233.1 bt233.2 bt235.2.2.2 bt240.2.2.2 true bt235.1 bt235.2.1 bt235.2.2.1 bt240.1 bt240.2.1 bt240.2.2.1) else (if (!(bt235.1 == bt240.1) || (!(bt235.2.1 == bt240.2.1) || (!(bt235.2.2.1.toList == bt240.2.2.1.toList)))) = true then (laws_FnEditBack.j0 k bt226.1 bt231.1 bt231.2 bt233.1 bt233.2 bt235.2.2.2 bt240.2.2.2 true bt235.1 bt235.2.1 bt235.2.2.1 bt240.1 bt240.2.1 bt240.2.2.1) else (if (bt235.2.2.2 != bt240.2.2.2) = true then (laws_FnEditBack.j0 k bt226.1 bt231.1 bt231.2 bt233.1 bt233.2 bt235.2.2.2 bt240.2.2.2 true bt235.1 bt235.2.1 bt235.2.2.1 bt240.1 bt240.2.1 bt240.2.2.1) else (if (bt235.2.2.2 != bt231.2) = true then (laws_FnEditBack.j0 k bt226.1 bt231.1 bt231.2 bt233.1 bt233.2 bt235.2.2.2 bt240.2.2.2 true bt235.1 bt235.2.1 bt235.2.2.1 bt240.1 bt240.2.1 bt240.2.2.1) else (laws_FnEditBack.j0 k bt226.1 bt231.1 bt231.2 bt233.1 bt233.2 bt235.2.2.2 bt240.2.2.2 (!bt231.2) bt235.1 bt235.2.1 bt235.2.2.1 bt240.1 bt240.2.1 bt240.2.2.1))))) else (laws_FnEditBack.j0 k bt226.1 bt231.1 bt231.2 bt233.1 bt233.2 bt235.2.2.2 bt240.2.2.2 true bt235.1 bt235.2.1 bt235.2.2.1 bt240.1 bt240.2.1 bt240.2.2.1)))))))) = some r := h
  clear h
  by_cases c2 : (l0.length : Int) > 1048576
  · rw [if_pos c2] at H
    have c2b0 : decide (1048576 < (l0.length : Int)) = true := decide_eq_true c2
    have c2b1 : decide (1048576 < l0.length) = true := decide_eq_true (by omega)
    clear c2
    obtain rfl := Option.some.inj H
    go_enter Tryd.func3, Tryd.ntmps3
    go_wp2
    go_ret
    exact ⟨by first | rfl | (simp [errW_none, errW_some] <;> rfl) | (simp [*, errW_none, errW_some] <;> rfl), by repeat (first | (with_reducible first | exact HB.out | apply below_alloc | apply pw_below_drewN | apply below_drew1) | exact HB.out)⟩
  · rw [if_neg c2] at H
    have c2b0 : decide (1048576 < (l0.length : Int)) = false := decide_eq_false c2
    have c2b1 : decide (1048576 < l0.length) = false := decide_eq_false (by omega)
    clear c2
    replace H := Option.bind_eq_some_iff.mp H
    obtain ⟨⟨t226, t227, t228, t229⟩, A30, H⟩ := H
    replace H : ((impl_EditDo.f k t226 t227 t228 t229).bind fun bt231 => ((spec_EditDo.f k t226 t227 t228 t229).bind fun bt233 => ((impl_EditBack.f k t226 t227 t228 t229).bind fun bt235 => ((spec_EditBack.f k t226 t227 t228 t229).bind fun bt240 => (if bt231.1.toList = bt233.1.toList then (if (bt231.2 != bt233.2) = true then (laws_FnEditBack.j0 k t226 bt231.1 bt231.2 bt233.1 bt233.2 bt235.2.2.2 bt240.2.2.2 true bt235.1 bt235.2.1 bt235.2.2.1 bt240.1 bt240.2.1 bt240.2.2.1) else (if (!(bt235.1 == bt240.1) || (!(bt235.2.1 == bt240.2.1) || (!(bt235.2.2.1.toList == bt240.2.2.1.toList)))) = true then (laws_FnEditBack.j0 k t226 bt231.1 bt231.2 bt233.1 bt233.2 bt235.2.2.2 bt240.2.2.2 true bt235.1 bt235.2.1 bt235.2.2.1 bt240.1 bt240.2.1 bt240.2.2.1) else (if (bt235.2.2.2 != bt240.2.2.2) = true then (laws_FnEditBack.j0 k t226 bt231.1 bt231.2 bt233.1 bt233.2 bt235.2.2.2 bt240.2.2.2 true bt235.1 bt235.2.1 bt235.2.2.1 bt240.1 bt240.2.1 bt240.2.2.1) else (if (bt235.2.2.2 != bt231.2) = true then (laws_FnEditBack.j0 k t226 bt231.1 bt231.2 bt233.1 bt233.2 bt235.2.2.2 bt240.2.2.2 true bt235.1 bt235.2.1 bt235.2.2.1 bt240.1 bt240.2.1 bt240.2.2.1) else (laws_FnEditBack.j0 k t226 bt231.1 bt231.2 bt233.1 bt233.2 bt235.2.2.2 bt240.2.2.2 (!bt231.2) bt235.1 bt235.2.1 bt235.2.2.1 bt240.1 bt240.2.1 bt240.2.2.1))))) else (laws_FnEditBack.j0 k t226 bt231.1 bt231.2 bt233.1 bt233.2 bt235.2.2.2 bt240.2.2.2 true bt235.1 bt235.2.1 bt235.2.2.1 bt240.1 bt240.2.1 bt240.2.2.1)))))) = some r := H
    have A3 := Aside0.mk A30
    clear A30
    replace H := Option.bind_eq_some_iff.mp H
    obtain ⟨⟨t231, t232⟩, A40, H⟩ := H
    replace H : ((spec_EditDo.f k t226 t227 t228 t229).bind fun bt233 => ((impl_EditBack.f k t226 t227 t228 t229).bind fun bt235 => ((spec_EditBack.f k t226 t227 t228 t229).bind fun bt240 => (if t231.toList = bt233.1.toList then (if (t232 != bt233.2) = true then (laws_FnEditBack.j0 k t226 t231 t232 bt233.1 bt233.2 bt235.2.2.2 bt240.2.2.2 true bt235.1 bt235.2.1 bt235.2.2.1 bt240.1 bt240.2.1 bt240.2.2.1) else (if (!(bt235.1 == bt240.1) || (!(bt235.2.1 == bt240.2.1) || (!(bt235.2.2.1.toList == bt240.2.2.1.toList)))) = true then (laws_FnEditBack.j0 k t226 t231 t232 bt233.1 bt233.2 bt235.2.2.2 bt240.2.2.2 true bt235.1 bt235.2.1 bt235.2.2.1 bt240.1 bt240.2.1 bt240.2.2.1) else (if (bt235.2.2.2 != bt240.2.2.2) = true then (laws_FnEditBack.j0 k t226 t231 t232 bt233.1 bt233.2 bt235.2.2.2 bt240.2.2.2 true bt235.1 bt235.2.1 bt235.2.2.1 bt240.1 bt240.2.1 bt240.2.2.1) else (if (bt235.2.2.2 != t232) = true then (laws_FnEditBack.j0 k t226 t231 t232 bt233.1 bt233.2 bt235.2.2.2 bt240.2.2.2 true bt235.1 bt235.2.1 bt235.2.2.1 bt240.1 bt240.2.1 bt240.2.2.1) else (laws_FnEditBack.j0 k t226 t231 t232 bt233.1 bt233.2 bt235.2.2.2 bt240.2.2.2 (!t232) bt235.1 bt235.2.1 bt235.2.2.1 bt240.1 bt240.2.1 bt240.2.2.1))))) else (laws_FnEditBack.j0 k t226 t231 t232 bt233.1 bt233.2 bt235.2.2.2 bt240.2.2.2 true bt235.1 bt235.2.1 bt235.2.2.1 bt240.1 bt240.2.1 bt240.2.2.1))))) = some r := H
    have A4 := Aside0.mk A40
    clear A40
    replace H := Option.bind_eq_some_iff.mp H
    obtain ⟨⟨t233, t234⟩, A50, H⟩ := H
    replace H : ((impl_EditBack.f k t226 t227 t228 t229).bind fun bt235 => ((spec_EditBack.f k t226 t227 t228 t229).bind fun bt240 => (if t231.toList = t233.toList then (if (t232 != t234) = true then (laws_FnEditBack.j0 k t226 t231 t232 t233 t234 bt235.2.2.2 bt240.2.2.2 true bt235.1 bt235.2.1 bt235.2.2.1 bt240.1 bt240.2.1 bt240.2.2.1) else (if (!(bt235.1 == bt240.1) || (!(bt235.2.1 == bt240.2.1) || (!(bt235.2.2.1.toList == bt240.2.2.1.toList)))) = true then (laws_FnEditBack.j0 k t226 t231 t232 t233 t234 bt235.2.2.2 bt240.2.2.2 true bt235.1 bt235.2.1 bt235.2.2.1 bt240.1 bt240.2.1 bt240.2.2.1) else (if (bt235.2.2.2 != bt240.2.2.2) = true then (laws_FnEditBack.j0 k t226 t231 t232 t233 t234 bt235.2.2.2 bt240.2.2.2 true bt235.1 bt235.2.1 bt235.2.2.1 bt240.1 bt240.2.1 bt240.2.2.1) else (if (bt235.2.2.2 != t232) = true then (laws_FnEditBack.j0 k t226 t231 t232 t233 t234 bt235.2.2.2 bt240.2.2.2 true bt235.1 bt235.2.1 bt235.2.2.1 bt240.1 bt240.2.1 bt240.2.2.1) else (laws_FnEditBack.j0 k t226 t231 t232 t233 t234 bt235.2.2.2 bt240.2.2.2 (!t232) bt235.1 bt235.2.1 bt235.2.2.1 bt240.1 bt240.2.1 bt240.2.2.1))))) else (laws_FnEditBack.j0 k t226 t231 t232 t233 t234 bt235.2.2.2 bt240.2.2.2 true bt235.1 bt235.2.1 bt235.2.2.1 bt240.1 bt240.2.1 bt240.2.2.1)))) = some r := H
    have A5 := Aside0.mk A50
    clear A50
    replace H := Option.bind_eq_some_iff.mp H
    obtain ⟨⟨t235, t236, t237, t238⟩, A60, H⟩ := H
    replace H : ((spec_EditBack.f k t226 t227 t228 t229).bind fun bt240 => (if t231.toList = t233.toList then (if (t232 != t234) = true then (laws_FnEditBack.j0 k t226 t231 t232 t233 t234 t238 bt240.2.2.2 true t235 t236 t237 bt240.1 bt240.2.1 bt240.2.2.1) else (if (!(t235 == bt240.1) || (!(t236 == bt240.2.1) || (!(t237.toList == bt240.2.2.1.toList)))) = true then (laws_FnEditBack.j0 k t226 t231 t232 t233 t234 t238 bt240.2.2.2 true t235 t236 t237 bt240.1 bt240.2.1 bt240.2.2.1) else (if (t238 != bt240.2.2.2) = true then (laws_FnEditBack.j0 k t226 t231 t232 t233 t234 t238 bt240.2.2.2 true t235 t236 t237 bt240.1 bt240.2.1 bt240.2.2.1) else (if (t238 != t232) = true then (laws_FnEditBack.j0 k t226 t231 t232 t233 t234 t238 bt240.2.2.2 true t235 t236 t237 bt240.1 bt240.2.1 bt240.2.2.1) else (laws_FnEditBack.j0 k t226 t231 t232 t233 t234 t238 bt240.2.2.2 (!t232) t235 t236 t237 bt240.1 bt240.2.1 bt240.2.2.1))))) else (laws_FnEditBack.j0 k t226 t231 t232 t233 t234 t238 bt240.2.2.2 true t235 t236 t237 bt240.1 bt240.2.1 bt240.2.2.1))) = some r := H
    have A6 := Aside0.mk A60
    clear A60
    replace H := Option.bind_eq_some_iff.mp H
    obtain ⟨⟨t240, t241, t242, t243⟩, A70, H⟩ := H
    replace H : (if t231.toList = t233.toList then (if (t232 != t234) = true then (laws_FnEditBack.j0 k t226 t231 t232 t233 t234 t238 t243 true t235 t236 t237 t240 t241 t242) else (if (!(t235 == t240) || (!(t236 == t241) || (!(t237.toList == t242.toList)))) = true then (laws_FnEditBack.j0 k t226 t231 t232 t233 t234 t238 t243 true t235 t236 t237 t240 t241 t242) else (if (t238 != t243) = true then (laws_FnEditBack.j0 k t226 t231 t232 t233 t234 t238 t243 true t235 t236 t237 t240 t241 t242) else (if (t238 != t232) = true then (laws_FnEditBack.j0 k t226 t231 t232 t233 t234 t238 t243 true t235 t236 t237 t240 t241 t242) else (laws_FnEditBack.j0 k t226 t231 t232 t233 t234 t238 t243 (!t232) t235 t236 t237 t240 t241 t242))))) else (laws_FnEditBack.j0 k t226 t231 t232 t233 t234 t238 t243 true t235 t236 t237 t240 t241 t242)) = some r := H
    have A7 := Aside0.mk A70
    clear A70
    have HC8 := Aside0.mk H
    clear H
    go_enter Tryd.func3, Tryd.ntmps3
    go_upto_region 8 with (first | ((with_reducible refine gate_callee (f := 11) rfl ?_); refine goesL_ (some 20) rfl rfl Tryd.func11 (by kernel_rfl) rfl #[.slice A0 l0.length c0] rfl (by (try simp only [List.map_toArray, List.map_cons, List.map_nil]); first | done | rfl | (simp only [List.length_drop, List.length_take]; rfl)) ?_; (with_reducible refine (spec_DrawEditBack.calls k _ _ l0 t226 t227 t228 t229 _ ?side1 ?side2 A3.out).mono ?_); (case side1 => repeat (first | exact HR0.out | (with_reducible refine Kd.C_alloc ?_ _) | (with_reducible refine Kd.C_drewN ?_ _) | (with_reducible refine Kd.C_drew ?_))); (case side2 => exact HC0.out); rintro e w9 ⟨rfl, hb⟩; refine ⟨_, rfl, ?_⟩; have n0_ := Aside0.mk (below_step (by repeat (first | (with_reducible first | exact HB.out | apply below_alloc | apply pw_below_drewN | apply below_drew1) | exact HB.out)) hb); clear HB; have HB := n0_; clear n0_; (try clear hb); (try clear hb2); (try clear hk); (try clear hi)) | ((with_reducible refine gate_dst (N := 4) rfl ?_); refine box_event ?hg (N := 4) ?hd (cs := #[.int .i64 0, .int .i64 0, .string (⟨#[]⟩ : ByteArray)]) (t := 24) ?hr ?_; (case hd => rfl); (case hg => rfl); (case hr => first | (go_simp; done) | (go_simp; rfl)); intro gb230 hg w10 hbox hb; have n0_ := Aside0.mk (below_step (by repeat (first | (with_reducible first | exact HB.out | apply below_alloc | apply pw_below_drewN | apply below_drew1) | exact HB.out)) hb); have n1_ := Aside0.mk (hbox); have n2_ := Aside0.mk ((by rw [hg]; exact (below_size (by repeat (first | (with_reducible first | exact HB.out | apply below_alloc | apply pw_below_drewN | apply below_drew1) | exact HB.out))) : w.heap.size ≤ gb230)); have n3_ := Aside0.mk ((by rw [hg]; exact (below_size (by repeat (first | (with_reducible first | exact HB.out | apply below_alloc | apply pw_below_drewN | apply below_drew1) | exact HB.out))) : w.heap.size ≤ gb230)); clear HB; have HB := n0_; have BK230 := n1_; have GW230 := n2_; have GE230 := n3_; clear n0_ n1_ n2_ n3_; clear hb hbox hg; have hcz11_0 : w10.cell? ⟨gb230, 0, none⟩ = some (.int .i64 0) := (blk_cell BK230.out 0).trans rfl; have hcz11_1 : w10.cell? ⟨gb230, 1, none⟩ = some (.int .i64 0) := (blk_cell BK230.out 1).trans rfl; have hcz11_2 : w10.cell? ⟨gb230, 2, none⟩ = some (.string (⟨#[]⟩ : ByteArray)) := (blk_cell BK230.out 2).trans rfl; have hfz11_0 := blk_frozen BK230.out 0; have hfz11_1 := blk_frozen BK230.out 1; have hfz11_2 := blk_frozen BK230.out 2) | ((with_reducible refine gate_callee (f := 12) rfl ?_); refine goesL_ (some 26) rfl rfl Tryd.func12 (by kernel_rfl) rfl #[.string t226, .agg #[.int .i64 t227, .int .i64 t228, .string t229]] rfl (by (try simp only [List.map_toArray, List.map_cons, List.map_nil]); first | done | rfl | (simp only [List.length_drop, List.length_take]; rfl)) ?_; (with_reducible refine (impl_EditDo.calls k t226 t227 t228 t229 t231 t232 _ A4.out).mono ?_); rintro e w12 ⟨rfl, hb⟩; refine ⟨_, rfl, ?_⟩; have n0_ := Aside0.mk (blk_below (g := gb230) (o := .cells #[.int .i64 t227, .int .i64 t228, .string t229] 24 (0, 0)) (by (with_reducible repeat (first | refine blk_drewN ?_ _ | refine blk_drew ?_ | refine blk_alloc ?_ _)); refine blk_put (cs := #[.int .i64 t227, .int .i64 t228, .string (⟨#[]⟩ : ByteArray)]) ?_ 2 _ rfl; (with_reducible repeat (first | refine blk_drewN ?_ _ | refine blk_drew ?_ | refine blk_alloc ?_ _)); refine blk_put (cs := #[.int .i64 t227, .int .i64 0, .string (⟨#[]⟩ : ByteArray)]) ?_ 1 _ rfl; (with_reducible repeat (first | refine blk_drewN ?_ _ | refine blk_drew ?_ | refine blk_alloc ?_ _)); refine blk_put (cs := #[.int .i64 0, .int .i64 0, .string (⟨#[]⟩ : ByteArray)]) ?_ 0 _ rfl; (with_reducible repeat (first | refine blk_drewN ?_ _ | refine blk_drew ?_ | refine blk_alloc ?_ _)); exact BK230.out) hb); have n1_ := Aside0.mk (below_step (by repeat (first | (with_reducible first | exact HB.out | apply below_alloc | apply pw_below_drewN | apply below_drew1 | refine below_set ?_ GE230.out) | exact HB.out)) hb); clear BK230; clear HB; have BK230 := n0_; have HB := n1_; clear n0_ n1_; (try clear hb); (try clear hb2); (try clear hk); (try clear hi); have hcz13_0 : w12.cell? ⟨gb230, 0, none⟩ = some (.int .i64 t227) := (blk_cell BK230.out 0).trans rfl; have hcz13_1 : w12.cell? ⟨gb230, 1, none⟩ = some (.int .i64 t228) := (blk_cell BK230.out 1).trans rfl; have hcz13_2 : w12.cell? ⟨gb230, 2, none⟩ = some (.string t229) := (blk_cell BK230.out 2).trans rfl; have hfz13_0 := blk_frozen BK230.out 0; have hfz13_1 := blk_frozen BK230.out 1; have hfz13_2 := blk_frozen BK230.out 2) | ((with_reducible refine gate_callee (f := 13) rfl ?_); refine goesL_ (some 32) rfl rfl Tryd.func13 (by kernel_rfl) rfl #[.string t226, .agg #[.int .i64 t227, .int .i64 t228, .string t229]] rfl (by (try simp only [List.map_toArray, List.map_cons, List.map_nil]); first | done | rfl | (simp only [List.length_drop, List.length_take]; rfl)) ?_; (with_reducible refine (spec_EditDo.calls k t226 t227 t228 t229 t233 t234 _ A5.out).mono ?_); rintro e w14 ⟨rfl, hb⟩; refine ⟨_, rfl, ?_⟩; have n0_ := Aside0.mk (blk_below (g := gb230) (o := .cells #[.int .i64 t227, .int .i64 t228, .string t229] 24 (0, 0)) (by (with_reducible repeat (first | refine blk_drewN ?_ _ | refine blk_drew ?_ | refine blk_alloc ?_ _)); exact BK230.out) hb); have n1_ := Aside0.mk (below_step (by repeat (first | (with_reducible first | exact HB.out | apply below_alloc | apply pw_below_drewN | apply below_drew1 | refine below_set ?_ GE230.out) | exact HB.out)) hb); clear BK230; clear HB; have BK230 := n0_; have HB := n1_; clear n0_ n1_; (try clear hb); (try clear hb2); (try clear hk); (try clear hi); have hcz15_0 : w14.cell? ⟨gb230, 0, none⟩ = some (.int .i64 t227) := (blk_cell BK230.out 0).trans rfl; have hcz15_1 : w14.cell? ⟨gb230, 1, none⟩ = some (.int .i64 t228) := (blk_cell BK230.out 1).trans rfl; have hcz15_2 : w14.cell? ⟨gb230, 2, none⟩ = some (.string t229) := (blk_cell BK230.out 2).trans rfl; have hfz15_0 := blk_frozen BK230.out 0; have hfz15_1 := blk_frozen BK230.out 1; have hfz15_2 := blk_frozen BK230.out 2) | ((with_reducible refine gate_callee (f := 14) rfl ?_); refine goesL_ (some 38) rfl rfl Tryd.func14 (by kernel_rfl) rfl #[.string t226, .agg #[.int .i64 t227, .int .i64 t228, .string t229]] rfl (by (try simp only [List.map_toArray, List.map_cons, List.map_nil]); first | done | rfl | (simp only [List.length_drop, List.length_take]; rfl)) ?_; (with_reducible refine (impl_EditBack.calls k t226 t227 t228 t229 t235 t236 t237 t238 _ A6.out).mono ?_); rintro e w16 ⟨rfl, hb⟩; refine ⟨_, rfl, ?_⟩; have n0_ := Aside0.mk (blk_below (g := gb230) (o := .cells #[.int .i64 t227, .int .i64 t228, .string t229] 24 (0, 0)) (by (with_reducible repeat (first | refine blk_drewN ?_ _ | refine blk_drew ?_ | refine blk_alloc ?_ _)); exact BK230.out) hb); have n1_ := Aside0.mk (below_step (by repeat (first | (with_reducible first | exact HB.out | apply below_alloc | apply pw_below_drewN | apply below_drew1 | refine below_set ?_ GE230.out) | exact HB.out)) hb); clear BK230; clear HB; have BK230 := n0_; have HB := n1_; clear n0_ n1_; (try clear hb); (try clear hb2); (try clear hk); (try clear hi)) | ((with_reducible refine gate_dst (N := 9) rfl ?_); refine box_event ?hg (N := 9) ?hd (cs := #[.int .i64 0, .int .i64 0, .string (⟨#[]⟩ : ByteArray)]) (t := 24) ?hr ?_; (case hd => rfl); (case hg => rfl); (case hr => first | (go_simp; done) | (go_simp; rfl)); intro gb239 hg w17 hbox hb; have n0_ := Aside0.mk (blk_below (g := gb230) (o := .cells #[.int .i64 t227, .int .i64 t228, .string t229] 24 (0, 0)) (by (with_reducible repeat (first | refine blk_drewN ?_ _ | refine blk_drew ?_ | refine blk_alloc ?_ _)); exact BK230.out) hb); have n1_ := Aside0.mk (below_step (by repeat (first | (with_reducible first | exact HB.out | apply below_alloc | apply pw_below_drewN | apply below_drew1 | refine below_set ?_ GE230.out) | exact HB.out)) hb); have n2_ := Aside0.mk (hbox); have n3_ := Aside0.mk ((by rw [hg]; exact (below_size (by repeat (first | (with_reducible first | exact HB.out | apply below_alloc | apply pw_below_drewN | apply below_drew1 | refine below_set ?_ GE230.out) | exact HB.out))) : w.heap.size ≤ gb239)); have n4_ := Aside0.mk ((by rw [hg]; exact (below_size (by repeat (first | (with_reducible first | exact HB.out | apply below_alloc | apply pw_below_drewN | apply below_drew1 | refine below_set ?_ GE230.out) | exact HB.out))) : w.heap.size ≤ gb239)); have n5_ := Aside0.mk ((by rw [hg]; exact Nat.ne_of_lt (blk_lt (g := gb230) (o := .cells #[.int .i64 t227, .int .i64 t228, .string t229] 24 (0, 0)) (by (with_reducible repeat (first | refine blk_drewN ?_ _ | refine blk_drew ?_ | refine blk_alloc ?_ _)); exact BK230.out)) : gb230 ≠ gb239)); have n6_ := Aside0.mk ((by rw [hg]; exact Nat.ne_of_gt (blk_lt (g := gb230) (o := .cells #[.int .i64 t227, .int .i64 t228, .string t229] 24 (0, 0)) (by (with_reducible repeat (first | refine blk_drewN ?_ _ | refine blk_drew ?_ | refine blk_alloc ?_ _)); exact BK230.out)) : gb239 ≠ gb230)); clear BK230; clear HB; have BK230 := n0_; have HB := n1_; have BK239 := n2_; have GW239 := n3_; have GE239 := n4_; have NB230_239 := n5_; have NB239_230 := n6_; clear n0_ n1_ n2_ n3_ n4_ n5_ n6_; clear hb hbox hg; have hnb18 := NB239_230.out; have hnc18 := NB230_239.out; have hcz19_0 : w17.cell? ⟨gb239, 0, none⟩ = some (.int .i64 0) := (blk_cell BK239.out 0).trans rfl; have hcz19_1 : w17.cell? ⟨gb239, 1, none⟩ = some (.int .i64 0) := (blk_cell BK239.out 1).trans rfl; have hcz19_2 : w17.cell? ⟨gb239, 2, none⟩ = some (.string (⟨#[]⟩ : ByteArray)) := (blk_cell BK239.out 2).trans rfl; have hfz19_0 := blk_frozen BK239.out 0; have hfz19_1 := blk_frozen BK239.out 1; have hfz19_2 := blk_frozen BK239.out 2; have hcz20_0 : w17.cell? ⟨gb230, 0, none⟩ = some (.int .i64 t227) := (blk_cell BK230.out 0).trans rfl; have hcz20_1 : w17.cell? ⟨gb230, 1, none⟩ = some (.int .i64 t228) := (blk_cell BK230.out 1).trans rfl; have hcz20_2 : w17.cell? ⟨gb230, 2, none⟩ = some (.string t229) := (blk_cell BK230.out 2).trans rfl; have hfz20_0 := blk_frozen BK230.out 0; have hfz20_1 := blk_frozen BK230.out 1; have hfz20_2 := blk_frozen BK230.out 2) | ((with_reducible refine gate_callee (f := 15) rfl ?_); refine goesL_ (some 44) rfl rfl Tryd.func15 (by kernel_rfl) rfl #[.string t226, .agg #[.int .i64 t227, .int .i64 t228, .string t229]] rfl (by (try simp only [List.map_toArray, List.map_cons, List.map_nil]); first | done | rfl | (simp only [List.length_drop, List.length_take]; rfl)) ?_; (with_reducible refine (spec_EditBack.calls k t226 t227 t228 t229 t240 t241 t242 t243 _ A7.out).mono ?_); rintro e w21 ⟨rfl, hb⟩; refine ⟨_, rfl, ?_⟩; have n0_ := Aside0.mk (blk_below (g := gb230) (o := .cells #[.int .i64 t227, .int .i64 t228, .string t229] 24 (0, 0)) (by (with_reducible repeat (first | refine blk_drewN ?_ _ | refine blk_drew ?_ | refine blk_alloc ?_ _)); refine blk_far ?_ NB230_239.out _; (with_reducible repeat (first | refine blk_drewN ?_ _ | refine blk_drew ?_ | refine blk_alloc ?_ _)); refine blk_far ?_ NB230_239.out _; (with_reducible repeat (first | refine blk_drewN ?_ _ | refine blk_drew ?_ | refine blk_alloc ?_ _)); refine blk_far ?_ NB230_239.out _; (with_reducible repeat (first | refine blk_drewN ?_ _ | refine blk_drew ?_ | refine blk_alloc ?_ _)); exact BK230.out) hb); have n1_ := Aside0.mk (blk_below (g := gb239) (o := .cells #[.int .i64 t235, .int .i64 t236, .string t237] 24 (0, 0)) (by (with_reducible repeat (first | refine blk_drewN ?_ _ | refine blk_drew ?_ | refine blk_alloc ?_ _)); refine blk_put (cs := #[.int .i64 t235, .int .i64 t236, .string (⟨#[]⟩ : ByteArray)]) ?_ 2 _ rfl; (with_reducible repeat (first | refine blk_drewN ?_ _ | refine blk_drew ?_ | refine blk_alloc ?_ _)); refine blk_put (cs := #[.int .i64 t235, .int .i64 0, .string (⟨#[]⟩ : ByteArray)]) ?_ 1 _ rfl; (with_reducible repeat (first | refine blk_drewN ?_ _ | refine blk_drew ?_ | refine blk_alloc ?_ _)); refine blk_put (cs := #[.int .i64 0, .int .i64 0, .string (⟨#[]⟩ : ByteArray)]) ?_ 0 _ rfl; (with_reducible repeat (first | refine blk_drewN ?_ _ | refine blk_drew ?_ | refine blk_alloc ?_ _)); exact BK239.out) hb); have n2_ := Aside0.mk (below_step (by repeat (first | (with_reducible first | exact HB.out | apply below_alloc | apply pw_below_drewN | apply below_drew1 | refine below_set ?_ GE230.out | refine below_set ?_ GE239.out) | exact HB.out)) hb); clear BK230; clear BK239; clear HB; have BK230 := n0_; have BK239 := n1_; have HB := n2_; clear n0_ n1_ n2_; (try clear hb); (try clear hb2); (try clear hk); (try clear hi)) | ((with_reducible refine gate_dst (N := 11) rfl ?_); refine box_event ?hg (N := 11) ?hd (cs := #[.int .i64 0, .int .i64 0, .string (⟨#[]⟩ : ByteArray)]) (t := 24) ?hr ?_; (case hd => rfl); (case hg => rfl); (case hr => first | (go_simp; done) | (go_simp; rfl)); intro gb244 hg w22 hbox hb; have n0_ := Aside0.mk (blk_below (g := gb230) (o := .cells #[.int .i64 t227, .int .i64 t228, .string t229] 24 (0, 0)) (by (with_reducible repeat (first | refine blk_drewN ?_ _ | refine blk_drew ?_ | refine blk_alloc ?_ _)); exact BK230.out) hb); have n1_ := Aside0.mk (blk_below (g := gb239) (o := .cells #[.int .i64 t235, .int .i64 t236, .string t237] 24 (0, 0)) (by (with_reducible repeat (first | refine blk_drewN ?_ _ | refine blk_drew ?_ | refine blk_alloc ?_ _)); exact BK239.out) hb); have n2_ := Aside0.mk (below_step (by repeat (first | (with_reducible first | exact HB.out | apply below_alloc | apply pw_below_drewN | apply below_drew1 | refine below_set ?_ GE230.out | refine below_set ?_ GE239.out) | exact HB.out)) hb); have n3_ := Aside0.mk (hbox); have n4_ := Aside0.mk ((by rw [hg]; exact (below_size (by repeat (first | (with_reducible first | exact HB.out | apply below_alloc | apply pw_below_drewN | apply below_drew1 | refine below_set ?_ GE230.out | refine below_set ?_ GE239.out) | exact HB.out))) : w.heap.size ≤ gb244)); have n5_ := Aside0.mk ((by rw [hg]; exact (below_size (by repeat (first | (with_reducible first | exact HB.out | apply below_alloc | apply pw_below_drewN | apply below_drew1 | refine below_set ?_ GE230.out | refine below_set ?_ GE239.out) | exact HB.out))) : w.heap.size ≤ gb244)); have n6_ := Aside0.mk ((by rw [hg]; exact Nat.ne_of_lt (blk_lt (g := gb230) (o := .cells #[.int .i64 t227, .int .i64 t228, .string t229] 24 (0, 0)) (by (with_reducible repeat (first | refine blk_drewN ?_ _ | refine blk_drew ?_ | refine blk_alloc ?_ _)); exact BK230.out)) : gb230 ≠ gb244)); have n7_ := Aside0.mk ((by rw [hg]; exact Nat.ne_of_gt (blk_lt (g := gb230) (o := .cells #[.int .i64 t227, .int .i64 t228, .string t229] 24 (0, 0)) (by (with_reducible repeat (first | refine blk_drewN ?_ _ | refine blk_drew ?_ | refine blk_alloc ?_ _)); exact BK230.out)) : gb244 ≠ gb230)); have n8_ := Aside0.mk ((by rw [hg]; exact Nat.ne_of_lt (blk_lt (g := gb239) (o := .cells #[.int .i64 t235, .int .i64 t236, .string t237] 24 (0, 0)) (by (with_reducible repeat (first | refine blk_drewN ?_ _ | refine blk_drew ?_ | refine blk_alloc ?_ _)); exact BK239.out)) : gb239 ≠ gb244)); have n9_ := Aside0.mk ((by rw [hg]; exact Nat.ne_of_gt (blk_lt (g := gb239) (o := .cells #[.int .i64 t235, .int .i64 t236, .string t237] 24 (0, 0)) (by (with_reducible repeat (first | refine blk_drewN ?_ _ | refine blk_drew ?_ | refine blk_alloc ?_ _)); exact BK239.out)) : gb244 ≠ gb239)); clear BK230; clear BK239; clear HB; have BK230 := n0_; have BK239 := n1_; have HB := n2_; have BK244 := n3_; have GW244 := n4_; have GE244 := n5_; have NB230_244 := n6_; have NB244_230 := n7_; have NB239_244 := n8_; have NB244_239 := n9_; clear n0_ n1_ n2_ n3_ n4_ n5_ n6_ n7_ n8_ n9_; clear hb hbox hg; have hnb23 := NB244_230.out; have hnc23 := NB230_244.out; have hnb24 := NB244_239.out; have hnc24 := NB239_244.out; have hcz25_0 : w22.cell? ⟨gb244, 0, none⟩ = some (.int .i64 0) := (blk_cell BK244.out 0).trans rfl; have hcz25_1 : w22.cell? ⟨gb244, 1, none⟩ = some (.int .i64 0) := (blk_cell BK244.out 1).trans rfl; have hcz25_2 : w22.cell? ⟨gb244, 2, none⟩ = some (.string (⟨#[]⟩ : ByteArray)) := (blk_cell BK244.out 2).trans rfl; have hfz25_0 := blk_frozen BK244.out 0; have hfz25_1 := blk_frozen BK244.out 1; have hfz25_2 := blk_frozen BK244.out 2))
    (try simp only [Act.put, List.setIfInBounds_toArray, List.set_cons_zero, List.set_cons_succ])
    go_cut [73] (fun v73 wc => ∃ (kq : Nat) (x73_7 : Bool), v73 = .bool x73_7 ∧ Aside0 (laws_FnEditBack.j0 kq t226 t231 t232 t233 t234 t238 t243 x73_7 t235 t236 t237 t240 t241 t242 = some r) ∧ Aside0 (kq ≤ k) ∧ Aside0 (wc.heap[gb230]? = some (.cells #[.int .i64 t227, .int .i64 t228, .string t229] 24 (0, 0))) ∧ Aside0 (wc.heap[gb239]? = some (.cells #[.int .i64 t235, .int .i64 t236, .string t237] 24 (0, 0))) ∧ Aside0 (wc.heap[gb244]? = some (.cells #[.int .i64 t240, .int .i64 t241, .string t242] 24 (0, 0))) ∧ Aside0 (Below w.heap.size w wc))
    case first =>
      have H := HC8.out
      clear HC8
      by_cases c26 : t231.toList = t233.toList
      · rw [if_pos c26] at H
        have c26b0 : (t231.toList == t233.toList) = true := beq_iff_eq.mpr c26
        have c26b1 : (t231.toList != t233.toList) = false := bne_eq_false_iff_eq.mpr c26
        clear c26
        (first | rw [c26b0] | (simp only [i64_w, i32_w]; rw [c26b0]) | skip)
        by_cases c27 : (t232 != t234) = true
        · rw [if_pos c27] at H
          have c27b0 : (t232 != t234) = true := c27
          (try (have c27b1 : decide (t232 = t234) = false := by simpa using c27))
          (try (have c27b2 : (t232 == t234) = false := by simpa using c27))
          (try (have c27b3 : ¬ (t232 = t234) := by simpa using c27))
          clear c27
          have H' := Aside0.mk H
          clear H
          go_wp2
          go_meet
          case rel => exact ⟨_, (true), (by first | rfl | (simp; done) | (simp [*]; done)), H', ⟨by first | omega | exact Nat.le_refl _⟩, ⟨by (with_reducible repeat (first | refine blk_drewN ?_ _ | refine blk_drew ?_ | refine blk_alloc ?_ _)); refine blk_far ?_ NB230_244.out _; (with_reducible repeat (first | refine blk_drewN ?_ _ | refine blk_drew ?_ | refine blk_alloc ?_ _)); refine blk_far ?_ NB230_244.out _; (with_reducible repeat (first | refine blk_drewN ?_ _ | refine blk_drew ?_ | refine blk_alloc ?_ _)); refine blk_far ?_ NB230_244.out _; (with_reducible repeat (first | refine blk_drewN ?_ _ | refine blk_drew ?_ | refine blk_alloc ?_ _)); exact BK230.out⟩, ⟨by (with_reducible repeat (first | refine blk_drewN ?_ _ | refine blk_drew ?_ | refine blk_alloc ?_ _)); refine blk_far ?_ NB239_244.out _; (with_reducible repeat (first | refine blk_drewN ?_ _ | refine blk_drew ?_ | refine blk_alloc ?_ _)); refine blk_far ?_ NB239_244.out _; (with_reducible repeat (first | refine blk_drewN ?_ _ | refine blk_drew ?_ | refine blk_alloc ?_ _)); refine blk_far ?_ NB239_244.out _; (with_reducible repeat (first | refine blk_drewN ?_ _ | refine blk_drew ?_ | refine blk_alloc ?_ _)); exact BK239.out⟩, ⟨by (with_reducible repeat (first | refine blk_drewN ?_ _ | refine blk_drew ?_ | refine blk_alloc ?_ _)); refine blk_put (cs := #[.int .i64 t240, .int .i64 t241, .string (⟨#[]⟩ : ByteArray)]) ?_ 2 _ rfl; (with_reducible repeat (first | refine blk_drewN ?_ _ | refine blk_drew ?_ | refine blk_alloc ?_ _)); refine blk_put (cs := #[.int .i64 t240, .int .i64 0, .string (⟨#[]⟩ : ByteArray)]) ?_ 1 _ rfl; (with_reducible repeat (first | refine blk_drewN ?_ _ | refine blk_drew ?_ | refine blk_alloc ?_ _)); refine blk_put (cs := #[.int .i64 0, .int .i64 0, .string (⟨#[]⟩ : ByteArray)]) ?_ 0 _ rfl; (with_reducible repeat (first | refine blk_drewN ?_ _ | refine blk_drew ?_ | refine blk_alloc ?_ _)); exact BK244.out⟩, ⟨by repeat (first | (with_reducible first | exact HB.out | apply below_alloc | apply pw_below_drewN | apply below_drew1 | refine below_set ?_ GE230.out | refine below_set ?_ GE239.out | refine below_set ?_ GE244.out) | exact HB.out)⟩⟩
        · rw [if_neg c27] at H
          have c27b0 : (t232 != t234) = false := by simpa using c27
          (try (have c27b1 : decide (t232 = t234) = true := by simpa using c27))
          (try (have c27b2 : (t232 == t234) = true := by simpa using c27))
          clear c27
          by_cases c28 : (!(t235 == t240) || (!(t236 == t241) || (!(t237.toList == t242.toList)))) = true
          · rw [if_pos c28] at H
            have c28b0 : (!(t235 == t240) || (!(t236 == t241) || (!(t237.toList == t242.toList)))) = true := c28
            clear c28
            have H' := Aside0.mk H
            clear H
            have hnb29 := NB239_230.out
            have hnc29 := NB230_239.out
            have hnb30 := NB239_244.out
            have hnc30 := NB244_239.out
            have hcz31_0 : w22.cell? ⟨gb239, 0, none⟩ = some (.int .i64 t235) := (blk_cell BK239.out 0).trans rfl
            have hcz31_1 : w22.cell? ⟨gb239, 1, none⟩ = some (.int .i64 t236) := (blk_cell BK239.out 1).trans rfl
            have hcz31_2 : w22.cell? ⟨gb239, 2, none⟩ = some (.string t237) := (blk_cell BK239.out 2).trans rfl
            have hfz31_0 := blk_frozen BK239.out 0
            have hfz31_1 := blk_frozen BK239.out 1
            have hfz31_2 := blk_frozen BK239.out 2
            have hnb32 := NB244_230.out
            have hnc32 := NB230_244.out
            have hcz33_0 : w22.cell? ⟨gb244, 0, none⟩ = some (.int .i64 0) := (blk_cell BK244.out 0).trans rfl
            have hcz33_1 : w22.cell? ⟨gb244, 1, none⟩ = some (.int .i64 0) := (blk_cell BK244.out 1).trans rfl
            have hcz33_2 : w22.cell? ⟨gb244, 2, none⟩ = some (.string (⟨#[]⟩ : ByteArray)) := (blk_cell BK244.out 2).trans rfl
            have hfz33_0 := blk_frozen BK244.out 0
            have hfz33_1 := blk_frozen BK244.out 1
            have hfz33_2 := blk_frozen BK244.out 2
            go_wp2
            go_meet
            case rel => exact ⟨_, (true), (by first | rfl | (simp; done) | (simp [*]; done)), H', ⟨by first | omega | exact Nat.le_refl _⟩, ⟨by (with_reducible repeat (first | refine blk_drewN ?_ _ | refine blk_drew ?_ | refine blk_alloc ?_ _)); refine blk_far ?_ NB230_244.out _; (with_reducible repeat (first | refine blk_drewN ?_ _ | refine blk_drew ?_ | refine blk_alloc ?_ _)); refine blk_far ?_ NB230_244.out _; (with_reducible repeat (first | refine blk_drewN ?_ _ | refine blk_drew ?_ | refine blk_alloc ?_ _)); refine blk_far ?_ NB230_244.out _; (with_reducible repeat (first | refine blk_drewN ?_ _ | refine blk_drew ?_ | refine blk_alloc ?_ _)); exact BK230.out⟩, ⟨by (with_reducible repeat (first | refine blk_drewN ?_ _ | refine blk_drew ?_ | refine blk_alloc ?_ _)); refine blk_far ?_ NB239_244.out _; (with_reducible repeat (first | refine blk_drewN ?_ _ | refine blk_drew ?_ | refine blk_alloc ?_ _)); refine blk_far ?_ NB239_244.out _; (with_reducible repeat (first | refine blk_drewN ?_ _ | refine blk_drew ?_ | refine blk_alloc ?_ _)); refine blk_far ?_ NB239_244.out _; (with_reducible repeat (first | refine blk_drewN ?_ _ | refine blk_drew ?_ | refine blk_alloc ?_ _)); exact BK239.out⟩, ⟨by (with_reducible repeat (first | refine blk_drewN ?_ _ | refine blk_drew ?_ | refine blk_alloc ?_ _)); refine blk_put (cs := #[.int .i64 t240, .int .i64 t241, .string (⟨#[]⟩ : ByteArray)]) ?_ 2 _ rfl; (with_reducible repeat (first | refine blk_drewN ?_ _ | refine blk_drew ?_ | refine blk_alloc ?_ _)); refine blk_put (cs := #[.int .i64 t240, .int .i64 0, .string (⟨#[]⟩ : ByteArray)]) ?_ 1 _ rfl; (with_reducible repeat (first | refine blk_drewN ?_ _ | refine blk_drew ?_ | refine blk_alloc ?_ _)); refine blk_put (cs := #[.int .i64 0, .int .i64 0, .string (⟨#[]⟩ : ByteArray)]) ?_ 0 _ rfl; (with_reducible repeat (first | refine blk_drewN ?_ _ | refine blk_drew ?_ | refine blk_alloc ?_ _)); exact BK244.out⟩, ⟨by repeat (first | (with_reducible first | exact HB.out | apply below_alloc | apply pw_below_drewN | apply below_drew1 | refine below_set ?_ GE230.out | refine below_set ?_ GE239.out | refine below_set ?_ GE244.out) | exact HB.out)⟩⟩
          · rw [if_neg c28] at H
            have c28b0 : (!(t235 == t240) || (!(t236 == t241) || (!(t237.toList == t242.toList)))) = false := by simpa using c28
            clear c28
            by_cases c34 : (t238 != t243) = true
            · rw [if_pos c34] at H
              have c34b0 : (t238 != t243) = true := c34
              (try (have c34b1 : decide (t238 = t243) = false := by simpa using c34))
              (try (have c34b2 : (t238 == t243) = false := by simpa using c34))
              (try (have c34b3 : ¬ (t238 = t243) := by simpa using c34))
              clear c34
              have H' := Aside0.mk H
              clear H
              have hnb35 := NB239_230.out
              have hnc35 := NB230_239.out
              have hnb36 := NB239_244.out
              have hnc36 := NB244_239.out
              have hcz37_0 : w22.cell? ⟨gb239, 0, none⟩ = some (.int .i64 t235) := (blk_cell BK239.out 0).trans rfl
              have hcz37_1 : w22.cell? ⟨gb239, 1, none⟩ = some (.int .i64 t236) := (blk_cell BK239.out 1).trans rfl
              have hcz37_2 : w22.cell? ⟨gb239, 2, none⟩ = some (.string t237) := (blk_cell BK239.out 2).trans rfl
              have hfz37_0 := blk_frozen BK239.out 0
              have hfz37_1 := blk_frozen BK239.out 1
              have hfz37_2 := blk_frozen BK239.out 2
              have hnb38 := NB244_230.out
              have hnc38 := NB230_244.out
              have hcz39_0 : w22.cell? ⟨gb244, 0, none⟩ = some (.int .i64 0) := (blk_cell BK244.out 0).trans rfl
              have hcz39_1 : w22.cell? ⟨gb244, 1, none⟩ = some (.int .i64 0) := (blk_cell BK244.out 1).trans rfl
              have hcz39_2 : w22.cell? ⟨gb244, 2, none⟩ = some (.string (⟨#[]⟩ : ByteArray)) := (blk_cell BK244.out 2).trans rfl
              have hfz39_0 := blk_frozen BK244.out 0
              have hfz39_1 := blk_frozen BK244.out 1
              have hfz39_2 := blk_frozen BK244.out 2
              go_wp2
              go_meet
              case rel => exact ⟨_, (true), (by first | rfl | (simp; done) | (simp [*]; done)), H', ⟨by first | omega | exact Nat.le_refl _⟩, ⟨by (with_reducible repeat (first | refine blk_drewN ?_ _ | refine blk_drew ?_ | refine blk_alloc ?_ _)); refine blk_far ?_ NB230_244.out _; (with_reducible repeat (first | refine blk_drewN ?_ _ | refine blk_drew ?_ | refine blk_alloc ?_ _)); refine blk_far ?_ NB230_244.out _; (with_reducible repeat (first | refine blk_drewN ?_ _ | refine blk_drew ?_ | refine blk_alloc ?_ _)); refine blk_far ?_ NB230_244.out _; (with_reducible repeat (first | refine blk_drewN ?_ _ | refine blk_drew ?_ | refine blk_alloc ?_ _)); exact BK230.out⟩, ⟨by (with_reducible repeat (first | refine blk_drewN ?_ _ | refine blk_drew ?_ | refine blk_alloc ?_ _)); refine blk_far ?_ NB239_244.out _; (with_reducible repeat (first | refine blk_drewN ?_ _ | refine blk_drew ?_ | refine blk_alloc ?_ _)); refine blk_far ?_ NB239_244.out _; (with_reducible repeat (first | refine blk_drewN ?_ _ | refine blk_drew ?_ | refine blk_alloc ?_ _)); refine blk_far ?_ NB239_244.out _; (with_reducible repeat (first | refine blk_drewN ?_ _ | refine blk_drew ?_ | refine blk_alloc ?_ _)); exact BK239.out⟩, ⟨by (with_reducible repeat (first | refine blk_drewN ?_ _ | refine blk_drew ?_ | refine blk_alloc ?_ _)); refine blk_put (cs := #[.int .i64 t240, .int .i64 t241, .string (⟨#[]⟩ : ByteArray)]) ?_ 2 _ rfl; (with_reducible repeat (first | refine blk_drewN ?_ _ | refine blk_drew ?_ | refine blk_alloc ?_ _)); refine blk_put (cs := #[.int .i64 t240, .int .i64 0, .string (⟨#[]⟩ : ByteArray)]) ?_ 1 _ rfl; (with_reducible repeat (first | refine blk_drewN ?_ _ | refine blk_drew ?_ | refine blk_alloc ?_ _)); refine blk_put (cs := #[.int .i64 0, .int .i64 0, .string (⟨#[]⟩ : ByteArray)]) ?_ 0 _ rfl; (with_reducible repeat (first | refine blk_drewN ?_ _ | refine blk_drew ?_ | refine blk_alloc ?_ _)); exact BK244.out⟩, ⟨by repeat (first | (with_reducible first | exact HB.out | apply below_alloc | apply pw_below_drewN | apply below_drew1 | refine below_set ?_ GE230.out | refine below_set ?_ GE239.out | refine below_set ?_ GE244.out) | exact HB.out)⟩⟩
            · rw [if_neg c34] at H
              have c34b0 : (t238 != t243) = false := by simpa using c34
              (try (have c34b1 : decide (t238 = t243) = true := by simpa using c34))
              (try (have c34b2 : (t238 == t243) = true := by simpa using c34))
              clear c34
              by_cases c40 : (t238 != t232) = true
              · rw [if_pos c40] at H
                have c40b0 : (t238 != t232) = true := c40
                (try (have c40b1 : decide (t238 = t232) = false := by simpa using c40))
                (try (have c40b2 : (t238 == t232) = false := by simpa using c40))
                (try (have c40b3 : ¬ (t238 = t232) := by simpa using c40))
                clear c40
                have H' := Aside0.mk H
                clear H
                have hnb41 := NB239_230.out
                have hnc41 := NB230_239.out
                have hnb42 := NB239_244.out
                have hnc42 := NB244_239.out
                have hcz43_0 : w22.cell? ⟨gb239, 0, none⟩ = some (.int .i64 t235) := (blk_cell BK239.out 0).trans rfl
                have hcz43_1 : w22.cell? ⟨gb239, 1, none⟩ = some (.int .i64 t236) := (blk_cell BK239.out 1).trans rfl
                have hcz43_2 : w22.cell? ⟨gb239, 2, none⟩ = some (.string t237) := (blk_cell BK239.out 2).trans rfl
                have hfz43_0 := blk_frozen BK239.out 0
                have hfz43_1 := blk_frozen BK239.out 1
                have hfz43_2 := blk_frozen BK239.out 2
                have hnb44 := NB244_230.out
                have hnc44 := NB230_244.out
                have hcz45_0 : w22.cell? ⟨gb244, 0, none⟩ = some (.int .i64 0) := (blk_cell BK244.out 0).trans rfl
                have hcz45_1 : w22.cell? ⟨gb244, 1, none⟩ = some (.int .i64 0) := (blk_cell BK244.out 1).trans rfl
                have hcz45_2 : w22.cell? ⟨gb244, 2, none⟩ = some (.string (⟨#[]⟩ : ByteArray)) := (blk_cell BK244.out 2).trans rfl
                have hfz45_0 := blk_frozen BK244.out 0
                have hfz45_1 := blk_frozen BK244.out 1
                have hfz45_2 := blk_frozen BK244.out 2
                go_wp2
                go_meet
                case rel => exact ⟨_, (true), (by first | rfl | (simp; done) | (simp [*]; done)), H', ⟨by first | omega | exact Nat.le_refl _⟩, ⟨by (with_reducible repeat (first | refine blk_drewN ?_ _ | refine blk_drew ?_ | refine blk_alloc ?_ _)); refine blk_far ?_ NB230_244.out _; (with_reducible repeat (first | refine blk_drewN ?_ _ | refine blk_drew ?_ | refine blk_alloc ?_ _)); refine blk_far ?_ NB230_244.out _; (with_reducible repeat (first | refine blk_drewN ?_ _ | refine blk_drew ?_ | refine blk_alloc ?_ _)); refine blk_far ?_ NB230_244.out _; (with_reducible repeat (first | refine blk_drewN ?_ _ | refine blk_drew ?_ | refine blk_alloc ?_ _)); exact BK230.out⟩, ⟨by (with_reducible repeat (first | refine blk_drewN ?_ _ | refine blk_drew ?_ | refine blk_alloc ?_ _)); refine blk_far ?_ NB239_244.out _; (with_reducible repeat (first | refine blk_drewN ?_ _ | refine blk_drew ?_ | refine blk_alloc ?_ _)); refine blk_far ?_ NB239_244.out _; (with_reducible repeat (first | refine blk_drewN ?_ _ | refine blk_drew ?_ | refine blk_alloc ?_ _)); refine blk_far ?_ NB239_244.out _; (with_reducible repeat (first | refine blk_drewN ?_ _ | refine blk_drew ?_ | refine blk_alloc ?_ _)); exact BK239.out⟩, ⟨by (with_reducible repeat (first | refine blk_drewN ?_ _ | refine blk_drew ?_ | refine blk_alloc ?_ _)); refine blk_put (cs := #[.int .i64 t240, .int .i64 t241, .string (⟨#[]⟩ : ByteArray)]) ?_ 2 _ rfl; (with_reducible repeat (first | refine blk_drewN ?_ _ | refine blk_drew ?_ | refine blk_alloc ?_ _)); refine blk_put (cs := #[.int .i64 t240, .int .i64 0, .string (⟨#[]⟩ : ByteArray)]) ?_ 1 _ rfl; (with_reducible repeat (first | refine blk_drewN ?_ _ | refine blk_drew ?_ | refine blk_alloc ?_ _)); refine blk_put (cs := #[.int .i64 0, .int .i64 0, .string (⟨#[]⟩ : ByteArray)]) ?_ 0 _ rfl; (with_reducible repeat (first | refine blk_drewN ?_ _ | refine blk_drew ?_ | refine blk_alloc ?_ _)); exact BK244.out⟩, ⟨by repeat (first | (with_reducible first | exact HB.out | apply below_alloc | apply pw_below_drewN | apply below_drew1 | refine below_set ?_ GE230.out | refine below_set ?_ GE239.out | refine below_set ?_ GE244.out) | exact HB.out)⟩⟩
              · rw [if_neg c40] at H
                have c40b0 : (t238 != t232) = false := by simpa using c40
                (try (have c40b1 : decide (t238 = t232) = true := by simpa using c40))
                (try (have c40b2 : (t238 == t232) = true := by simpa using c40))
                clear c40
                have H' := Aside0.mk H
                clear H
                have hnb46 := NB239_230.out
                have hnc46 := NB230_239.out
                have hnb47 := NB239_244.out
                have hnc47 := NB244_239.out
                have hcz48_0 : w22.cell? ⟨gb239, 0, none⟩ = some (.int .i64 t235) := (blk_cell BK239.out 0).trans rfl
                have hcz48_1 : w22.cell? ⟨gb239, 1, none⟩ = some (.int .i64 t236) := (blk_cell BK239.out 1).trans rfl
                have hcz48_2 : w22.cell? ⟨gb239, 2, none⟩ = some (.string t237) := (blk_cell BK239.out 2).trans rfl
                have hfz48_0 := blk_frozen BK239.out 0
                have hfz48_1 := blk_frozen BK239.out 1
                have hfz48_2 := blk_frozen BK239.out 2
                have hnb49 := NB244_230.out
                have hnc49 := NB230_244.out
                have hcz50_0 : w22.cell? ⟨gb244, 0, none⟩ = some (.int .i64 0) := (blk_cell BK244.out 0).trans rfl
                have hcz50_1 : w22.cell? ⟨gb244, 1, none⟩ = some (.int .i64 0) := (blk_cell BK244.out 1).trans rfl
                have hcz50_2 : w22.cell? ⟨gb244, 2, none⟩ = some (.string (⟨#[]⟩ : ByteArray)) := (blk_cell BK244.out 2).trans rfl
                have hfz50_0 := blk_frozen BK244.out 0
                have hfz50_1 := blk_frozen BK244.out 1
                have hfz50_2 := blk_frozen BK244.out 2
                go_wp2
                go_meet
                case rel => exact ⟨_, (!t232), (by first | rfl | (simp; done) | (simp [*]; done)), H', ⟨by first | omega | exact Nat.le_refl _⟩, ⟨by (with_reducible repeat (first | refine blk_drewN ?_ _ | refine blk_drew ?_ | refine blk_alloc ?_ _)); refine blk_far ?_ NB230_244.out _; (with_reducible repeat (first | refine blk_drewN ?_ _ | refine blk_drew ?_ | refine blk_alloc ?_ _)); refine blk_far ?_ NB230_244.out _; (with_reducible repeat (first | refine blk_drewN ?_ _ | refine blk_drew ?_ | refine blk_alloc ?_ _)); refine blk_far ?_ NB230_244.out _; (with_reducible repeat (first | refine blk_drewN ?_ _ | refine blk_drew ?_ | refine blk_alloc ?_ _)); exact BK230.out⟩, ⟨by (with_reducible repeat (first | refine blk_drewN ?_ _ | refine blk_drew ?_ | refine blk_alloc ?_ _)); refine blk_far ?_ NB239_244.out _; (with_reducible repeat (first | refine blk_drewN ?_ _ | refine blk_drew ?_ | refine blk_alloc ?_ _)); refine blk_far ?_ NB239_244.out _; (with_reducible repeat (first | refine blk_drewN ?_ _ | refine blk_drew ?_ | refine blk_alloc ?_ _)); refine blk_far ?_ NB239_244.out _; (with_reducible repeat (first | refine blk_drewN ?_ _ | refine blk_drew ?_ | refine blk_alloc ?_ _)); exact BK239.out⟩, ⟨by (with_reducible repeat (first | refine blk_drewN ?_ _ | refine blk_drew ?_ | refine blk_alloc ?_ _)); refine blk_put (cs := #[.int .i64 t240, .int .i64 t241, .string (⟨#[]⟩ : ByteArray)]) ?_ 2 _ rfl; (with_reducible repeat (first | refine blk_drewN ?_ _ | refine blk_drew ?_ | refine blk_alloc ?_ _)); refine blk_put (cs := #[.int .i64 t240, .int .i64 0, .string (⟨#[]⟩ : ByteArray)]) ?_ 1 _ rfl; (with_reducible repeat (first | refine blk_drewN ?_ _ | refine blk_drew ?_ | refine blk_alloc ?_ _)); refine blk_put (cs := #[.int .i64 0, .int .i64 0, .string (⟨#[]⟩ : ByteArray)]) ?_ 0 _ rfl; (with_reducible repeat (first | refine blk_drewN ?_ _ | refine blk_drew ?_ | refine blk_alloc ?_ _)); exact BK244.out⟩, ⟨by repeat (first | (with_reducible first | exact HB.out | apply below_alloc | apply pw_below_drewN | apply below_drew1 | refine below_set ?_ GE230.out | refine below_set ?_ GE239.out | refine below_set ?_ GE244.out) | exact HB.out)⟩⟩
      · rw [if_neg c26] at H
        have c26b0 : (t231.toList == t233.toList) = false := beq_eq_false_iff_ne.mpr c26
        have c26b1 : (t231.toList != t233.toList) = true := bne_iff_ne.mpr c26
        (first | rw [c26b0] | (simp only [i64_w, i32_w]; rw [c26b0]) | skip)
        have H' := Aside0.mk H
        clear H
        go_wp2
        go_meet
        case rel => exact ⟨_, (true), (by first | rfl | (simp; done) | (simp [*]; done)), H', ⟨by first | omega | exact Nat.le_refl _⟩, ⟨by (with_reducible repeat (first | refine blk_drewN ?_ _ | refine blk_drew ?_ | refine blk_alloc ?_ _)); refine blk_far ?_ NB230_244.out _; (with_reducible repeat (first | refine blk_drewN ?_ _ | refine blk_drew ?_ | refine blk_alloc ?_ _)); refine blk_far ?_ NB230_244.out _; (with_reducible repeat (first | refine blk_drewN ?_ _ | refine blk_drew ?_ | refine blk_alloc ?_ _)); refine blk_far ?_ NB230_244.out _; (with_reducible repeat (first | refine blk_drewN ?_ _ | refine blk_drew ?_ | refine blk_alloc ?_ _)); exact BK230.out⟩, ⟨by (with_reducible repeat (first | refine blk_drewN ?_ _ | refine blk_drew ?_ | refine blk_alloc ?_ _)); refine blk_far ?_ NB239_244.out _; (with_reducible repeat (first | refine blk_drewN ?_ _ | refine blk_drew ?_ | refine blk_alloc ?_ _)); refine blk_far ?_ NB239_244.out _; (with_reducible repeat (first | refine blk_drewN ?_ _ | refine blk_drew ?_ | refine blk_alloc ?_ _)); refine blk_far ?_ NB239_244.out _; (with_reducible repeat (first | refine blk_drewN ?_ _ | refine blk_drew ?_ | refine blk_alloc ?_ _)); exact BK239.out⟩, ⟨by (with_reducible repeat (first | refine blk_drewN ?_ _ | refine blk_drew ?_ | refine blk_alloc ?_ _)); refine blk_put (cs := #[.int .i64 t240, .int .i64 t241, .string (⟨#[]⟩ : ByteArray)]) ?_ 2 _ rfl; (with_reducible repeat (first | refine blk_drewN ?_ _ | refine blk_drew ?_ | refine blk_alloc ?_ _)); refine blk_put (cs := #[.int .i64 t240, .int .i64 0, .string (⟨#[]⟩ : ByteArray)]) ?_ 1 _ rfl; (with_reducible repeat (first | refine blk_drewN ?_ _ | refine blk_drew ?_ | refine blk_alloc ?_ _)); refine blk_put (cs := #[.int .i64 0, .int .i64 0, .string (⟨#[]⟩ : ByteArray)]) ?_ 0 _ rfl; (with_reducible repeat (first | refine blk_drewN ?_ _ | refine blk_drew ?_ | refine blk_alloc ?_ _)); exact BK244.out⟩, ⟨by repeat (first | (with_reducible first | exact HB.out | apply below_alloc | apply pw_below_drewN | apply below_drew1 | refine below_set ?_ GE230.out | refine below_set ?_ GE239.out | refine below_set ?_ GE244.out) | exact HB.out)⟩⟩
    case rest =>
      clear HC8
      try clear c1
      try clear c2
      try clear c2b0
      try clear c2b1
      try clear p2
      try clear c3
      try clear c4
      try clear c11
      try clear c12
      try clear c13
      try clear c14
      try clear c15
      try clear c18
      try clear c23
      try clear c24
      try clear c26
      try clear c26b0
      try clear c26b1
      try clear c27
      try clear c27b0
      try clear c27b1
      try clear c27b2
      try clear c28
      try clear c28b0
      try clear c29
      try clear c30
      try clear c32
      try clear c34
      try clear c34b0
      try clear c34b1
      try clear c34b2
      try clear c35
      try clear c36
      try clear c38
      try clear c40
      try clear c40b0
      try clear c40b1
      try clear c40b2
      try clear c41
      try clear c42
      try clear c44
      try clear c46
      try clear c47
      try clear c49
      try clear hcz11_0
      try clear hcz11_1
      try clear hcz11_2
      try clear hcz13_0
      try clear hcz13_1
      try clear hcz13_2
      try clear hcz15_0
      try clear hcz15_1
      try clear hcz15_2
      try clear hcz19_0
      try clear hcz19_1
      try clear hcz19_2
      try clear hcz20_0
      try clear hcz20_1
      try clear hcz20_2
      try clear hcz25_0
      try clear hcz25_1
      try clear hcz25_2
      try clear hcz31_0
      try clear hcz31_1
      try clear hcz31_2
      try clear hcz33_0
      try clear hcz33_1
      try clear hcz33_2
      try clear hcz37_0
      try clear hcz37_1
      try clear hcz37_2
      try clear hcz39_0
      try clear hcz39_1
      try clear hcz39_2
      try clear hcz43_0
      try clear hcz43_1
      try clear hcz43_2
      try clear hcz45_0
      try clear hcz45_1
      try clear hcz45_2
      try clear hcz48_0
      try clear hcz48_1
      try clear hcz48_2
      try clear hcz50_0
      try clear hcz50_1
      try clear hcz50_2
      try clear hfz11_0
      try clear hfz11_1
      try clear hfz11_2
      try clear hfz13_0
      try clear hfz13_1
      try clear hfz13_2
      try clear hfz15_0
      try clear hfz15_1
      try clear hfz15_2
      try clear hfz19_0
      try clear hfz19_1
      try clear hfz19_2
      try clear hfz20_0
      try clear hfz20_1
      try clear hfz20_2
      try clear hfz25_0
      try clear hfz25_1
      try clear hfz25_2
      try clear hfz31_0
      try clear hfz31_1
      try clear hfz31_2
      try clear hfz33_0
      try clear hfz33_1
      try clear hfz33_2
      try clear hfz37_0
      try clear hfz37_1
      try clear hfz37_2
      try clear hfz39_0
      try clear hfz39_1
      try clear hfz39_2
      try clear hfz43_0
      try clear hfz43_1
      try clear hfz43_2
      try clear hfz45_0
      try clear hfz45_1
      try clear hfz45_2
      try clear hfz48_0
      try clear hfz48_1
      try clear hfz48_2
      try clear hfz50_0
      try clear hfz50_1
      try clear hfz50_2
      obtain ⟨kq, x73_7, rfl, HA, HJ7, BK230, BK239, BK244, HB⟩ := hcut
      cases kq with
      | zero => exact absurd HA.out (by simp [laws_FnEditBack.j0])
      | succ kj7 =>
        have H := HA.out
        clear HA
        simp only [laws_FnEditBack.j0] at H
        by_cases c51 : x73_7 = true
        · subst c51
          have H1 : (if t231.toList = t233.toList then (if (t232 == t234) = true then (if (t235 == t240 && (t236 == t241 && (t237.toList == t242.toList))) = true then (if (t238 == t243) = true then (some (t238 == t232)) else (some false)) else (some false)) else (some false)) else (some false)) = some r := by rw [if_pos rfl] at H; exact H
          clear H
          have H := H1
          clear H1
          by_cases c52 : t231.toList = t233.toList
          · rw [if_pos c52] at H
            have c52b0 : (t231.toList == t233.toList) = true := beq_iff_eq.mpr c52
            have c52b1 : (t231.toList != t233.toList) = false := bne_eq_false_iff_eq.mpr c52
            clear c52
            by_cases c53 : (t232 == t234) = true
            · rw [if_pos c53] at H
              have c53b0 : (t232 == t234) = true := c53
              (try (have c53b1 : decide (t232 = t234) = true := by simpa using c53))
              (try (have c53b2 : (t232 == t234) = true := by simpa using c53))
              clear c53
              by_cases c54 : (t235 == t240 && (t236 == t241 && (t237.toList == t242.toList))) = true
              · rw [if_pos c54] at H
                have c54b0 : (t235 == t240 && (t236 == t241 && (t237.toList == t242.toList))) = true := c54
                (try (have c54b1 : decide (t235 = t240 && (t236 == t241 && (t237.toList == t242.toList))) = true := by simpa using c54))
                (try (have c54b2 : (t235 == t240 && (t236 == t241 && (t237.toList == t242.toList))) = true := by simpa using c54))
                clear c54
                by_cases c55 : (t238 == t243) = true
                · rw [if_pos c55] at H
                  have c55b0 : (t238 == t243) = true := c55
                  (try (have c55b1 : decide (t238 = t243) = true := by simpa using c55))
                  (try (have c55b2 : (t238 == t243) = true := by simpa using c55))
                  clear c55
                  obtain rfl := Option.some.inj H
                  have hnb56 := NB239_230.out
                  have hnc56 := NB230_239.out
                  have hnb57 := NB239_244.out
                  have hnc57 := NB244_239.out
                  have hcz58_0 : wc.cell? ⟨gb239, 0, none⟩ = some (.int .i64 t235) := (blk_cell BK239.out 0).trans rfl
                  have hcz58_1 : wc.cell? ⟨gb239, 1, none⟩ = some (.int .i64 t236) := (blk_cell BK239.out 1).trans rfl
                  have hcz58_2 : wc.cell? ⟨gb239, 2, none⟩ = some (.string t237) := (blk_cell BK239.out 2).trans rfl
                  have hfz58_0 := blk_frozen BK239.out 0
                  have hfz58_1 := blk_frozen BK239.out 1
                  have hfz58_2 := blk_frozen BK239.out 2
                  have hnb59 := NB244_230.out
                  have hnc59 := NB230_244.out
                  have hcz60_0 : wc.cell? ⟨gb244, 0, none⟩ = some (.int .i64 t240) := (blk_cell BK244.out 0).trans rfl
                  have hcz60_1 : wc.cell? ⟨gb244, 1, none⟩ = some (.int .i64 t241) := (blk_cell BK244.out 1).trans rfl
                  have hcz60_2 : wc.cell? ⟨gb244, 2, none⟩ = some (.string t242) := (blk_cell BK244.out 2).trans rfl
                  have hfz60_0 := blk_frozen BK244.out 0
                  have hfz60_1 := blk_frozen BK244.out 1
                  have hfz60_2 := blk_frozen BK244.out 2
                  go_wp2
                  go_ret
                  exact ⟨by first | rfl | (simp [errW_none, errW_some] <;> rfl) | (simp [*, errW_none, errW_some] <;> rfl), by repeat (first | (with_reducible first | exact HB.out | apply below_alloc | apply pw_below_drewN | apply below_drew1 | refine below_set ?_ GE230.out | refine below_set ?_ GE239.out | refine below_set ?_ GE244.out) | exact HB.out)⟩
                · rw [if_neg c55] at H
                  have c55b0 : (t238 == t243) = false := by simpa using c55
                  (try (have c55b1 : decide (t238 = t243) = false := by simpa using c55))
                  (try (have c55b2 : (t238 == t243) = false := by simpa using c55))
                  (try (have c55b3 : ¬ (t238 = t243) := by simpa using c55))
                  clear c55
                  obtain rfl := Option.some.inj H
                  have hnb61 := NB239_230.out
                  have hnc61 := NB230_239.out
                  have hnb62 := NB239_244.out
                  have hnc62 := NB244_239.out
                  have hcz63_0 : wc.cell? ⟨gb239, 0, none⟩ = some (.int .i64 t235) := (blk_cell BK239.out 0).trans rfl
                  have hcz63_1 : wc.cell? ⟨gb239, 1, none⟩ = some (.int .i64 t236) := (blk_cell BK239.out 1).trans rfl
                  have hcz63_2 : wc.cell? ⟨gb239, 2, none⟩ = some (.string t237) := (blk_cell BK239.out 2).trans rfl
                  have hfz63_0 := blk_frozen BK239.out 0
                  have hfz63_1 := blk_frozen BK239.out 1
                  have hfz63_2 := blk_frozen BK239.out 2
                  have hnb64 := NB244_230.out
                  have hnc64 := NB230_244.out
                  have hcz65_0 : wc.cell? ⟨gb244, 0, none⟩ = some (.int .i64 t240) := (blk_cell BK244.out 0).trans rfl
                  have hcz65_1 : wc.cell? ⟨gb244, 1, none⟩ = some (.int .i64 t241) := (blk_cell BK244.out 1).trans rfl
                  have hcz65_2 : wc.cell? ⟨gb244, 2, none⟩ = some (.string t242) := (blk_cell BK244.out 2).trans rfl
                  have hfz65_0 := blk_frozen BK244.out 0
                  have hfz65_1 := blk_frozen BK244.out 1
                  have hfz65_2 := blk_frozen BK244.out 2
                  go_wp2
                  go_ret
                  exact ⟨by first | rfl | (simp [errW_none, errW_some] <;> rfl) | (simp [*, errW_none, errW_some] <;> rfl), by repeat (first | (with_reducible first | exact HB.out | apply below_alloc | apply pw_below_drewN | apply below_drew1 | refine below_set ?_ GE230.out | refine below_set ?_ GE239.out | refine below_set ?_ GE244.out) | exact HB.out)⟩
              · rw [if_neg c54] at H
                have c54b0 : (t235 == t240 && (t236 == t241 && (t237.toList == t242.toList))) = false := by simpa using c54
                (try (have c54b1 : decide (t235 = t240 && (t236 == t241 && (t237.toList == t242.toList))) = false := by simpa using c54))
                (try (have c54b2 : (t235 == t240 && (t236 == t241 && (t237.toList == t242.toList))) = false := by simpa using c54))
                (try (have c54b3 : ¬ (t235 = t240 && (t236 == t241 && (t237.toList == t242.toList))) := by simpa using c54))
                clear c54
                obtain rfl := Option.some.inj H
                have hnb66 := NB239_230.out
                have hnc66 := NB230_239.out
                have hnb67 := NB239_244.out
                have hnc67 := NB244_239.out
                have hcz68_0 : wc.cell? ⟨gb239, 0, none⟩ = some (.int .i64 t235) := (blk_cell BK239.out 0).trans rfl
                have hcz68_1 : wc.cell? ⟨gb239, 1, none⟩ = some (.int .i64 t236) := (blk_cell BK239.out 1).trans rfl
                have hcz68_2 : wc.cell? ⟨gb239, 2, none⟩ = some (.string t237) := (blk_cell BK239.out 2).trans rfl
                have hfz68_0 := blk_frozen BK239.out 0
                have hfz68_1 := blk_frozen BK239.out 1
                have hfz68_2 := blk_frozen BK239.out 2
                have hnb69 := NB244_230.out
                have hnc69 := NB230_244.out
                have hcz70_0 : wc.cell? ⟨gb244, 0, none⟩ = some (.int .i64 t240) := (blk_cell BK244.out 0).trans rfl
                have hcz70_1 : wc.cell? ⟨gb244, 1, none⟩ = some (.int .i64 t241) := (blk_cell BK244.out 1).trans rfl
                have hcz70_2 : wc.cell? ⟨gb244, 2, none⟩ = some (.string t242) := (blk_cell BK244.out 2).trans rfl
                have hfz70_0 := blk_frozen BK244.out 0
                have hfz70_1 := blk_frozen BK244.out 1
                have hfz70_2 := blk_frozen BK244.out 2
                go_wp2
                go_ret
                exact ⟨by first | rfl | (simp [errW_none, errW_some] <;> rfl) | (simp [*, errW_none, errW_some] <;> rfl), by repeat (first | (with_reducible first | exact HB.out | apply below_alloc | apply pw_below_drewN | apply below_drew1 | refine below_set ?_ GE230.out | refine below_set ?_ GE239.out | refine below_set ?_ GE244.out) | exact HB.out)⟩
            · rw [if_neg c53] at H
              have c53b0 : (t232 == t234) = false := by simpa using c53
              (try (have c53b1 : decide (t232 = t234) = false := by simpa using c53))
              (try (have c53b2 : (t232 == t234) = false := by simpa using c53))
              (try (have c53b3 : ¬ (t232 = t234) := by simpa using c53))
              clear c53
              obtain rfl := Option.some.inj H
              go_wp2
              go_ret
              exact ⟨by first | rfl | (simp [errW_none, errW_some] <;> rfl) | (simp [*, errW_none, errW_some] <;> rfl), by repeat (first | (with_reducible first | exact HB.out | apply below_alloc | apply pw_below_drewN | apply below_drew1 | refine below_set ?_ GE230.out | refine below_set ?_ GE239.out | refine below_set ?_ GE244.out) | exact HB.out)⟩
          · rw [if_neg c52] at H
            have c52b0 : (t231.toList == t233.toList) = false := beq_eq_false_iff_ne.mpr c52
            have c52b1 : (t231.toList != t233.toList) = true := bne_iff_ne.mpr c52
            obtain rfl := Option.some.inj H
            go_wp2
            go_ret
            exact ⟨by first | rfl | (simp [errW_none, errW_some] <;> rfl) | (simp [*, errW_none, errW_some] <;> rfl), by repeat (first | (with_reducible first | exact HB.out | apply below_alloc | apply pw_below_drewN | apply below_drew1 | refine below_set ?_ GE230.out | refine below_set ?_ GE239.out | refine below_set ?_ GE244.out) | exact HB.out)⟩
        · replace c51 := Bool.eq_false_iff.mpr c51
          subst c51
          have H1 : ((impl_EditDo.f kj7 t231 t235 t236 t237).bind fun bt245 => (if bt245.2 = true then (if bt245.1.toList = t226.toList then ((impl_EditsFar.f kj7 t226 t231).bind fun t247 => (some (t247 == 1))) else (some false)) else (some false))) = some r := by rw [if_neg (show ¬ (false = true) by decide)] at H; exact H
          clear H
          have H := H1
          clear H1
          replace H := Option.bind_eq_some_iff.mp H
          obtain ⟨⟨t245, t246⟩, A710, H⟩ := H
          replace H : (if t246 = true then (if t245.toList = t226.toList then ((impl_EditsFar.f kj7 t226 t231).bind fun t247 => (some (t247 == 1))) else (some false)) else (some false)) = some r := H
          have A71 := Aside0.mk A710
          clear A710
          by_cases c72 : t246 = true
          · subst c72
            have H1 : (if t245.toList = t226.toList then ((impl_EditsFar.f kj7 t226 t231).bind fun t247 => (some (t247 == 1))) else (some false)) = some r := by rw [if_pos rfl] at H; exact H
            clear H
            have H := H1
            clear H1
            by_cases c73 : t245.toList = t226.toList
            · rw [if_pos c73] at H
              have c73b0 : (t245.toList == t226.toList) = true := beq_iff_eq.mpr c73
              have c73b1 : (t245.toList != t226.toList) = false := bne_eq_false_iff_eq.mpr c73
              clear c73
              replace H := Option.bind_eq_some_iff.mp H
              obtain ⟨t247, A740, H⟩ := H
              replace H : (some (t247 == 1)) = some r := H
              have A74 := Aside0.mk A740
              clear A740
              obtain rfl := Option.some.inj H
              have hnb75 := NB239_230.out
              have hnc75 := NB230_239.out
              have hnb76 := NB239_244.out
              have hnc76 := NB244_239.out
              have hcz77_0 : wc.cell? ⟨gb239, 0, none⟩ = some (.int .i64 t235) := (blk_cell BK239.out 0).trans rfl
              have hcz77_1 : wc.cell? ⟨gb239, 1, none⟩ = some (.int .i64 t236) := (blk_cell BK239.out 1).trans rfl
              have hcz77_2 : wc.cell? ⟨gb239, 2, none⟩ = some (.string t237) := (blk_cell BK239.out 2).trans rfl
              have hfz77_0 := blk_frozen BK239.out 0
              have hfz77_1 := blk_frozen BK239.out 1
              have hfz77_2 := blk_frozen BK239.out 2
              go_wp2_with (first | ((with_reducible refine gate_callee (f := 12) rfl ?_); refine goesL_ (some 100) rfl rfl Tryd.func12 (by kernel_rfl) rfl #[.string t231, .agg #[.int .i64 t235, .int .i64 t236, .string t237]] rfl (by (try simp only [List.map_toArray, List.map_cons, List.map_nil]); first | done | rfl | (simp only [List.length_drop, List.length_take]; rfl)) ?_; (with_reducible refine (impl_EditDo.calls kj7 t231 t235 t236 t237 t245 true _ A71.out).mono ?_); rintro e w78 ⟨rfl, hb⟩; refine ⟨_, rfl, ?_⟩; have n0_ := Aside0.mk (blk_below (g := gb230) (o := .cells #[.int .i64 t227, .int .i64 t228, .string t229] 24 (0, 0)) (by (with_reducible repeat (first | refine blk_drewN ?_ _ | refine blk_drew ?_ | refine blk_alloc ?_ _)); exact BK230.out) hb); have n1_ := Aside0.mk (blk_below (g := gb239) (o := .cells #[.int .i64 t235, .int .i64 t236, .string t237] 24 (0, 0)) (by (with_reducible repeat (first | refine blk_drewN ?_ _ | refine blk_drew ?_ | refine blk_alloc ?_ _)); exact BK239.out) hb); have n2_ := Aside0.mk (blk_below (g := gb244) (o := .cells #[.int .i64 t240, .int .i64 t241, .string t242] 24 (0, 0)) (by (with_reducible repeat (first | refine blk_drewN ?_ _ | refine blk_drew ?_ | refine blk_alloc ?_ _)); exact BK244.out) hb); have n3_ := Aside0.mk (below_step (by repeat (first | (with_reducible first | exact HB.out | apply below_alloc | apply pw_below_drewN | apply below_drew1 | refine below_set ?_ GE230.out | refine below_set ?_ GE239.out | refine below_set ?_ GE244.out) | exact HB.out)) hb); clear BK230; clear BK239; clear BK244; clear HB; have BK230 := n0_; have BK239 := n1_; have BK244 := n2_; have HB := n3_; clear n0_ n1_ n2_ n3_; (try clear hb); (try clear hb2); (try clear hk); (try clear hi)) | (go_at_call 16; (with_reducible refine (impl_EditsFar.calls kj7 t226 t231 t247 _ A74.out).mono ?_); rintro e w79 ⟨rfl, hb⟩; have n0_ := Aside0.mk (blk_below (g := gb230) (o := .cells #[.int .i64 t227, .int .i64 t228, .string t229] 24 (0, 0)) (by (with_reducible repeat (first | refine blk_drewN ?_ _ | refine blk_drew ?_ | refine blk_alloc ?_ _)); exact BK230.out) hb); have n1_ := Aside0.mk (blk_below (g := gb239) (o := .cells #[.int .i64 t235, .int .i64 t236, .string t237] 24 (0, 0)) (by (with_reducible repeat (first | refine blk_drewN ?_ _ | refine blk_drew ?_ | refine blk_alloc ?_ _)); exact BK239.out) hb); have n2_ := Aside0.mk (blk_below (g := gb244) (o := .cells #[.int .i64 t240, .int .i64 t241, .string t242] 24 (0, 0)) (by (with_reducible repeat (first | refine blk_drewN ?_ _ | refine blk_drew ?_ | refine blk_alloc ?_ _)); exact BK244.out) hb); have n3_ := Aside0.mk (below_step (by repeat (first | (with_reducible first | exact HB.out | apply below_alloc | apply pw_below_drewN | apply below_drew1 | refine below_set ?_ GE230.out | refine below_set ?_ GE239.out | refine below_set ?_ GE244.out) | exact HB.out)) hb); clear BK230; clear BK239; clear BK244; clear HB; have BK230 := n0_; have BK239 := n1_; have BK244 := n2_; have HB := n3_; clear n0_ n1_ n2_ n3_; (try clear hb); (try clear hb2); (try clear hk); (try clear hi)))
              go_ret
              exact ⟨by first | rfl | (simp [errW_none, errW_some] <;> rfl) | (simp [*, errW_none, errW_some] <;> rfl), by repeat (first | (with_reducible first | exact HB.out | apply below_alloc | apply pw_below_drewN | apply below_drew1 | refine below_set ?_ GE230.out | refine below_set ?_ GE239.out | refine below_set ?_ GE244.out) | exact HB.out)⟩
            · rw [if_neg c73] at H
              have c73b0 : (t245.toList == t226.toList) = false := beq_eq_false_iff_ne.mpr c73
              have c73b1 : (t245.toList != t226.toList) = true := bne_iff_ne.mpr c73
              obtain rfl := Option.some.inj H
              have hnb80 := NB239_230.out
              have hnc80 := NB230_239.out
              have hnb81 := NB239_244.out
              have hnc81 := NB244_239.out
              have hcz82_0 : wc.cell? ⟨gb239, 0, none⟩ = some (.int .i64 t235) := (blk_cell BK239.out 0).trans rfl
              have hcz82_1 : wc.cell? ⟨gb239, 1, none⟩ = some (.int .i64 t236) := (blk_cell BK239.out 1).trans rfl
              have hcz82_2 : wc.cell? ⟨gb239, 2, none⟩ = some (.string t237) := (blk_cell BK239.out 2).trans rfl
              have hfz82_0 := blk_frozen BK239.out 0
              have hfz82_1 := blk_frozen BK239.out 1
              have hfz82_2 := blk_frozen BK239.out 2
              go_wp2_with (first | ((with_reducible refine gate_callee (f := 12) rfl ?_); refine goesL_ (some 100) rfl rfl Tryd.func12 (by kernel_rfl) rfl #[.string t231, .agg #[.int .i64 t235, .int .i64 t236, .string t237]] rfl (by (try simp only [List.map_toArray, List.map_cons, List.map_nil]); first | done | rfl | (simp only [List.length_drop, List.length_take]; rfl)) ?_; (with_reducible refine (impl_EditDo.calls kj7 t231 t235 t236 t237 t245 true _ A71.out).mono ?_); rintro e w83 ⟨rfl, hb⟩; refine ⟨_, rfl, ?_⟩; have n0_ := Aside0.mk (blk_below (g := gb230) (o := .cells #[.int .i64 t227, .int .i64 t228, .string t229] 24 (0, 0)) (by (with_reducible repeat (first | refine blk_drewN ?_ _ | refine blk_drew ?_ | refine blk_alloc ?_ _)); exact BK230.out) hb); have n1_ := Aside0.mk (blk_below (g := gb239) (o := .cells #[.int .i64 t235, .int .i64 t236, .string t237] 24 (0, 0)) (by (with_reducible repeat (first | refine blk_drewN ?_ _ | refine blk_drew ?_ | refine blk_alloc ?_ _)); exact BK239.out) hb); have n2_ := Aside0.mk (blk_below (g := gb244) (o := .cells #[.int .i64 t240, .int .i64 t241, .string t242] 24 (0, 0)) (by (with_reducible repeat (first | refine blk_drewN ?_ _ | refine blk_drew ?_ | refine blk_alloc ?_ _)); exact BK244.out) hb); have n3_ := Aside0.mk (below_step (by repeat (first | (with_reducible first | exact HB.out | apply below_alloc | apply pw_below_drewN | apply below_drew1 | refine below_set ?_ GE230.out | refine below_set ?_ GE239.out | refine below_set ?_ GE244.out) | exact HB.out)) hb); clear BK230; clear BK239; clear BK244; clear HB; have BK230 := n0_; have BK239 := n1_; have BK244 := n2_; have HB := n3_; clear n0_ n1_ n2_ n3_; (try clear hb); (try clear hb2); (try clear hk); (try clear hi)))
              go_ret
              exact ⟨by first | rfl | (simp [errW_none, errW_some] <;> rfl) | (simp [*, errW_none, errW_some] <;> rfl), by repeat (first | (with_reducible first | exact HB.out | apply below_alloc | apply pw_below_drewN | apply below_drew1 | refine below_set ?_ GE230.out | refine below_set ?_ GE239.out | refine below_set ?_ GE244.out) | exact HB.out)⟩
          · replace c72 := Bool.eq_false_iff.mpr c72
            subst c72
            have H1 : (some false) = some r := by rw [if_neg (show ¬ (false = true) by decide)] at H; exact H
            clear H
            have H := H1
            clear H1
            obtain rfl := Option.some.inj H
            have hnb84 := NB239_230.out
            have hnc84 := NB230_239.out
            have hnb85 := NB239_244.out
            have hnc85 := NB244_239.out
            have hcz86_0 : wc.cell? ⟨gb239, 0, none⟩ = some (.int .i64 t235) := (blk_cell BK239.out 0).trans rfl
            have hcz86_1 : wc.cell? ⟨gb239, 1, none⟩ = some (.int .i64 t236) := (blk_cell BK239.out 1).trans rfl
            have hcz86_2 : wc.cell? ⟨gb239, 2, none⟩ = some (.string t237) := (blk_cell BK239.out 2).trans rfl
            have hfz86_0 := blk_frozen BK239.out 0
            have hfz86_1 := blk_frozen BK239.out 1
            have hfz86_2 := blk_frozen BK239.out 2
            go_wp2_with (first | ((with_reducible refine gate_callee (f := 12) rfl ?_); refine goesL_ (some 100) rfl rfl Tryd.func12 (by kernel_rfl) rfl #[.string t231, .agg #[.int .i64 t235, .int .i64 t236, .string t237]] rfl (by (try simp only [List.map_toArray, List.map_cons, List.map_nil]); first | done | rfl | (simp only [List.length_drop, List.length_take]; rfl)) ?_; (with_reducible refine (impl_EditDo.calls kj7 t231 t235 t236 t237 t245 false _ A71.out).mono ?_); rintro e w87 ⟨rfl, hb⟩; refine ⟨_, rfl, ?_⟩; have n0_ := Aside0.mk (blk_below (g := gb230) (o := .cells #[.int .i64 t227, .int .i64 t228, .string t229] 24 (0, 0)) (by (with_reducible repeat (first | refine blk_drewN ?_ _ | refine blk_drew ?_ | refine blk_alloc ?_ _)); exact BK230.out) hb); have n1_ := Aside0.mk (blk_below (g := gb239) (o := .cells #[.int .i64 t235, .int .i64 t236, .string t237] 24 (0, 0)) (by (with_reducible repeat (first | refine blk_drewN ?_ _ | refine blk_drew ?_ | refine blk_alloc ?_ _)); exact BK239.out) hb); have n2_ := Aside0.mk (blk_below (g := gb244) (o := .cells #[.int .i64 t240, .int .i64 t241, .string t242] 24 (0, 0)) (by (with_reducible repeat (first | refine blk_drewN ?_ _ | refine blk_drew ?_ | refine blk_alloc ?_ _)); exact BK244.out) hb); have n3_ := Aside0.mk (below_step (by repeat (first | (with_reducible first | exact HB.out | apply below_alloc | apply pw_below_drewN | apply below_drew1 | refine below_set ?_ GE230.out | refine below_set ?_ GE239.out | refine below_set ?_ GE244.out) | exact HB.out)) hb); clear BK230; clear BK239; clear BK244; clear HB; have BK230 := n0_; have BK239 := n1_; have BK244 := n2_; have HB := n3_; clear n0_ n1_ n2_ n3_; (try clear hb); (try clear hb2); (try clear hk); (try clear hi)))
            go_ret
            exact ⟨by first | rfl | (simp [errW_none, errW_some] <;> rfl) | (simp [*, errW_none, errW_some] <;> rfl), by repeat (first | (with_reducible first | exact HB.out | apply below_alloc | apply pw_below_drewN | apply below_drew1 | refine below_set ?_ GE230.out | refine below_set ?_ GE239.out | refine below_set ?_ GE244.out) | exact HB.out)⟩

/-- THE ONE PURE STATEMENT of laws_FnEditBack: yours. -/
def laws_FnEditBack.Pure : Prop := ∀ (l0 : List Int), l0.length ≤ maxLen → l0.length * 1 ≤ 140737488351232 → (∀ x ∈ l0, (Lit.int .u8 x).wf = true) → ∃ k, laws_FnEditBack.f k l0 = some true
theorem laws_FnEditBack.walk (P : laws_FnEditBack.Pure) (a0 : Option Addr) (len0 cap0 : Nat) (z0 : List Int) (w : World) (w0 : (a0 = none ∧ len0 = 0 ∧ cap0 = 0 ∧ z0 = []) ∨ ∃ x, a0 = some x ∧ len0 ≤ cap0 ∧ cap0 ≤ maxLen ∧ z0.length = cap0 ∧ (∀ i, i < z0.length → w.cell? (x.add i) = some (.int .u8 (z0.getD i 0))) ∧ ∀ n ∈ z0, (Lit.int .u8 n).wf = true) (y0 : len0 * 1 ≤ 140737488351232) :
    Calls Tryd.prog 3 #[.slice a0 len0 cap0] w fun e w' => e = .returned (.bool true) ∧ Below w.heap.size w w' := by
  obtain ⟨l0, rfl, hr0, hm0, hw0, hc0⟩ := ReadsInt.ofRowC w0
  obtain ⟨k, h⟩ := P l0 hm0 y0 hw0
  refine (laws_FnEditBack.calls k _ _ l0 true w (Kd.C_of_reads (d := (0 : Int)) (h1 := fun _ => rfl) hr0) hc0 h).mono ?_
  rintro e w' ⟨rfl, hd⟩
  exact ⟨rfl, hd⟩

end Go.Proofs.YtilogmimbdpnbaaDoor.PFnEditBack
