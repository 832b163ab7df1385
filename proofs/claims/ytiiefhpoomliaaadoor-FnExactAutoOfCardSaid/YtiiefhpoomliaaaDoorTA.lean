import Derived.Test.YtiiefhpoomliaaaDoorK1
namespace Go.Proofs.YtiiefhpoomliaaaDoor.TA
open Go Go.Proofs.YtiiefhpoomliaaaDoor.Eng
set_option maxRecDepth 100000
set_option linter.unusedVariables false
def tys : List (Nat × Ty) :=
  [(2, .int .i64), (3, .int .i64), (4, .bool), (5, .int .u8), (6, .int .u8), (7, .pair (.int .i64) (.pair (.int .i64) (.pair .bool (.int .u8)))), (8, .pair (.int .i64) (.pair (.int .i64) (.pair .bool (.int .u8)))), (9, .str), (10, .str), (11, .str), (12, .int .u64), (13, .pair .str (.int .u64)), (14, .pair .str (.int .u64)), (21, .int .i32), (22, .sl .bool), (23, .sl (.sl (.int .i64))), (24, .pair (.int .i64) (.pair (.sl .bool) (.sl (.sl (.int .i64))))), (25, .pair (.int .i64) (.pair (.sl .bool) (.sl (.sl (.int .i64))))), (31, .sl (.int .i64)), (39, .int .u64), (45, .int .u32), (48, .int .u64), (63, .pair (.int .u8) (.int .u8)), (64, .pair (.int .u8) (.int .u8)), (77, .int .u8), (78, .int .u8), (81, .int .i32), (82, .int .i32)]
def fns : List (Nat × FA) :=
    [
     (3, { res := [(.one (.pv .bool))], hand := [], cuts := [] }),
     (4, { res := [(.one (.pv (.pair (.int .i64) (.pair (.sl .bool) (.sl (.sl (.int .i64))))))), (.one (.pv .bool))], hand := [], cuts := [(122, [(0, .one (.pv .str)), (2, .box false [(.pv (.int .i64)), (.pv (.sl .bool)), (.pv (.sl (.sl (.int .i64))))]), (4, .box false [(.pv (.int .i64)), (.own .bool 0), (.own (.sl (.int .i64)) 0)]), (5, .one (.pv (.int .i64)))]), (7827, [(0, .one (.pv .str)), (2, .box false [(.pv (.int .i64)), (.pv (.sl .bool)), (.pv (.sl (.sl (.int .i64))))]), (4, .box false [(.pv (.int .i64)), (.own .bool 0), (.own (.sl (.int .i64)) 0)]), (5, .one (.pv (.int .i64))), (6, .one (.own (.int .i64) 0))])] }),
     (5, { res := [(.agg [.pv (.int .i64), .own .bool 0, .own (.sl (.int .i64)) 1]), (.one (.pv .bool))], hand := [], cuts := [(122, [(0, .one (.pv .str)), (2, .box false [(.pv (.int .i64)), (.own .bool 0), (.own (.sl (.int .i64)) 1)]), (4, .box false [(.pv (.int .i64)), (.own .bool 0), (.own (.sl (.int .i64)) 1)]), (23, .one (.pv (.int .i64))), (24, .one (.pv (.int .i64)))]), (31335, [(0, .one (.pv .str)), (2, .box false [(.pv (.int .i64)), (.own .bool 0), (.own (.sl (.int .i64)) 1)]), (4, .box false [(.pv (.int .i64)), (.own .bool 0), (.own (.sl (.int .i64)) 1)]), (6, .one (.own (.int .i64) 0)), (23, .one (.pv (.int .i64))), (24, .one (.pv (.int .i64)))])] }),
     (6, { res := [(.one (.pv .bool))], hand := [], cuts := [] }),
     (8, { res := [(.one (.pv (.int .i64)))], hand := [], cuts := [] }),
     (9, { res := [(.one (.pv .bool))], hand := [], cuts := [(26, [(0, .one (.pv .str)), (3, .one (.pv (.int .i64)))])] }),
     (10, { res := [(.one (.pv .bool))], hand := [], cuts := [] }),
     (11, { res := [(.one (.own (.int .i64) 0))], hand := [], cuts := [(7, [(0, .one (.pv (.sl (.int .i64)))), (1, .one (.pv (.int .i64)))]), (31, [(0, .one (.pv (.sl (.int .i64)))), (6, .one (.pv (.int .u64)))]), (508, [(7, .one (.pv (.sl (.int .i64)))), (8, .one (.pv (.int .i64)))])] }),
     (12, { res := [(.one (.pv .bool))], hand := [], cuts := [(58, [(0, .one (.pv (.sl .bool))), (1, .one (.pv (.sl .bool))), (5, .one (.pv (.int .i64)))])] }),
     (13, { res := [(.one (.pv .bool))], hand := [], cuts := [(58, [(0, .one (.pv (.sl (.sl (.int .i64))))), (1, .one (.pv (.sl (.sl (.int .i64))))), (5, .one (.pv (.int .i64)))])] }),
     (16, { res := [(.one (.pv (.int .i64)))], hand := [], cuts := [(26, [(0, .one (.pv (.sl .bool))), (1, .one (.pv (.int .i64))), (5, .one (.pv (.int .i64)))])] }),
     (17, { res := [(.one (.pv (.int .i64)))], hand := [], cuts := [(26, [(0, .one (.pv (.sl (.sl (.int .i64))))), (1, .one (.pv (.int .i64))), (5, .one (.pv (.int .i64)))])] }),
     (18, { res := [(.one (.pv .bool))], hand := [], cuts := [] }),
     (19, { res := [(.one (.pv .bool))], hand := [], cuts := [] }),
     (21, { res := [(.one (.pv .bool))], hand := [], cuts := [(58, [(0, .one (.pv (.sl (.int .i64)))), (1, .one (.pv (.sl (.int .i64)))), (5, .one (.pv (.int .i64)))])] }),
     (23, { res := [(.one (.pv (.int .i64)))], hand := [], cuts := [(26, [(0, .one (.pv (.sl (.int .i64)))), (1, .one (.pv (.int .i64))), (5, .one (.pv (.int .i64)))])] }),
     (24, { res := [(.one (.pv .str))], hand := [], cuts := [] })]
def eqs : List (Nat × List Ty) := [(4, [.bool])]
def A : Ann := Ann.mk tys eqs fns [] [] [] [7]
def X : Ext A := ⟨fun f => Nat.beq f 11 || Nat.beq f 24, fun f args => match f, args with
  | 11, [.d (.sl (.int .i64)) l, .d (.int .i64) c] => ifE (List.length l = 1 ∧ 1 ≤ c ∧ c ≤ 1000000) (some (List.replicate c.toNat (List.getD l 0 0))) none
  | 24, [.d .str s, .d .str c] => ifE (s.length ≤ 9223372036854775807 ∧ c.length < 4294967281 ∧ (c.all fun b => decide (b.toNat < 128)) = true) (some (trimE s c)) none
  | _, _ => none⟩
end Go.Proofs.YtiiefhpoomliaaaDoor.TA
