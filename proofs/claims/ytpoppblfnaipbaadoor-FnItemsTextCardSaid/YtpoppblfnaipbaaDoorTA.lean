import Derived.Test.YtpoppblfnaipbaaDoorK1
namespace Go.Proofs.YtpoppblfnaipbaaDoor.TA
open Go Go.Proofs.YtpoppblfnaipbaaDoor.Eng
set_option maxRecDepth 100000
set_option linter.unusedVariables false
def tys : List (Nat × Ty) :=
  [(2, .int .i64), (3, .int .i64), (4, .bool), (5, .int .u8), (6, .int .u8), (7, .pair (.int .i64) (.pair (.int .i64) (.pair .bool (.int .u8)))), (8, .pair (.int .i64) (.pair (.int .i64) (.pair .bool (.int .u8)))), (9, .str), (10, .str), (11, .str), (12, .int .u64), (13, .pair .str (.int .u64)), (14, .pair .str (.int .u64)), (21, .int .i32), (22, .sl (.int .u8)), (23, .sl (.pair .str .str)), (24, .pair .str (.sl (.pair .str .str))), (25, .pair .str (.sl (.pair .str .str))), (34, .sl (.pair (.int .i64) (.pair (.int .i64) .str))), (40, .pair .str .str), (41, .pair .str .str), (42, .sl .str), (60, .pair (.int .i64) (.pair (.int .i64) .str)), (61, .pair (.int .i64) (.pair (.int .i64) .str)), (75, .pair (.sl (.int .u8)) (.int .i64)), (76, .pair (.sl (.int .u8)) (.int .i64)), (81, .sl (.int .i64)), (97, .pair .str (.sl .str)), (98, .pair .str (.sl .str)), (109, .int .u64), (117, .int .u32), (125, .pair (.int .u8) (.int .u8)), (126, .pair (.int .u8) (.int .u8)), (135, .int .u8), (136, .int .u8), (138, .int .i32), (139, .int .i32), (143, .int .u64)]
def fns : List (Nat × FA) :=
    [
     (4, { res := [(.one (.pv .bool))], hand := [], cuts := [(2042, [(3, .box false [(.pv .str), (.pv (.sl (.pair .str .str)))]), (4, .one (.pv (.sl (.pair (.int .i64) (.pair (.int .i64) .str))))), (5, .one (.pv .str)), (6, .one (.pv (.int .i64))), (7, .one (.pv (.int .i64)))]), (4090, [(3, .box false [(.pv .str), (.pv (.sl (.pair .str .str)))]), (4, .one (.pv (.sl (.pair (.int .i64) (.pair (.int .i64) .str))))), (5, .one (.pv .str)), (6, .one (.pv (.int .i64))), (8, .one (.pv (.int .i64)))])] }),
     (9, { res := [(.one (.pv .bool))], hand := [], cuts := [(58, [(1, .box false [(.pv .str), (.pv (.sl (.pair .str .str)))]), (16, .one (.pv (.sl (.pair .str .str)))), (17, .one (.pv (.int .i64))), (18, .one (.pv (.int .i64)))])] }),
     (10, { res := [(.one (.pv .bool))], hand := [], cuts := [(58, [(1, .box false [(.pv .str), (.pv (.sl (.pair .str .str)))]), (3, .one (.pv (.int .i64)))])] }),
     (14, { res := [(.one (.pv (.pair .str (.sl (.pair .str .str))))), (.one (.pv (.sl (.pair (.int .i64) (.pair (.int .i64) .str)))))], hand := [], cuts := [] }),
     (15, { res := [(.one (.pv .str))], hand := [], cuts := [(122, [(2, .box false [(.pv .str), (.pv (.sl (.pair .str .str)))]), (5, .one .any), (14, .one (.pv (.sl (.pair (.int .i64) (.pair (.int .i64) .str))))), (15, .one (.pv (.int .i64))), (16, .one (.pv (.int .i64)))]), (31335, [(2, .box false [(.pv .str), (.pv (.sl (.pair .str .str)))]), (5, .one .any), (7, .box false [(.pv (.int .i64)), (.pv (.int .i64)), (.pv .str)]), (8, .one (.pv .str)), (9, .one (.pv .str)), (14, .one (.pv (.sl (.pair (.int .i64) (.pair (.int .i64) .str))))), (15, .one (.pv (.int .i64))), (16, .one (.pv (.int .i64)))])] }),
     (16, { res := [(.one (.pv .str))], hand := [], cuts := [(58, [(1, .one (.pv (.sl (.pair (.int .i64) (.pair (.int .i64) .str))))), (2, .box false [(.pv .str), (.pv (.sl (.pair .str .str)))]), (5, .one (.pv .str)), (6, .one (.pv (.int .i64)))]), (7463, [(1, .one (.pv (.sl (.pair (.int .i64) (.pair (.int .i64) .str))))), (2, .box false [(.pv .str), (.pv (.sl (.pair .str .str)))]), (5, .one (.pv .str)), (6, .one (.pv (.int .i64))), (7, .box false [(.pv (.int .i64)), (.pv (.int .i64)), (.pv .str)]), (8, .one (.pv .str))])] }),
     (17, { res := [(.one (.pv .bool))], hand := [], cuts := [(26, [(1, .one (.pv (.sl (.pair (.int .i64) (.pair (.int .i64) .str))))), (2, .box false [(.pv .str), (.pv (.sl (.pair .str .str)))]), (5, .one (.pv (.int .i64)))])] }),
     (18, { res := [(.one (.pv .bool))], hand := [], cuts := [(58, [(1, .one (.pv (.sl (.pair (.int .i64) (.pair (.int .i64) .str))))), (2, .box false [(.pv .str), (.pv (.sl (.pair .str .str)))]), (10, .one (.pv (.sl (.pair (.int .i64) (.pair (.int .i64) .str))))), (11, .one (.pv (.int .i64))), (12, .one (.pv (.int .i64)))])] }),
     (23, { res := [(.one (.pv .bool))], hand := [], cuts := [] }),
     (24, { res := [(.one (.pv .bool))], hand := [], cuts := [] }),
     (25, { res := [(.one (.pv .bool))], hand := [], cuts := [] }),
     (26, { res := [(.one (.pv .bool))], hand := [], cuts := [] }),
     (27, { res := [(.one (.pv .bool))], hand := [], cuts := [(26, [(0, .one (.pv .str)), (1, .one (.pv (.int .i64))), (5, .one (.pv (.int .i64)))])] }),
     (28, { res := [(.one (.pv (.int .i64)))], hand := [], cuts := [(26, [(0, .one (.pv (.sl (.pair .str .str)))), (3, .box false [(.pv .str), (.pv .str)]), (5, .one (.pv (.int .i64)))])] }),
     (30, { res := [(.ptr [(.pv (.sl (.int .u8))), (.pv (.int .i64))])], hand := [], cuts := [] }),
     (32, { res := [(.one (.pv (.pair .str (.sl (.pair .str .str)))))], hand := [(0, .ptr [(.pv (.sl (.int .u8))), (.pv (.int .i64))])], cuts := [(122, [(0, .box true [(.pv (.sl (.int .u8))), (.pv (.int .i64))]), (2, .box false [(.pv .str), (.pv (.sl (.pair .str .str)))]), (3, .box false [(.pv .str), (.own (.pair .str .str) 0)]), (4, .one (.pv (.int .i64)))])] }),
     (34, { res := [(.one (.pv (.pair .str (.sl (.pair .str .str))))), (.one (.pv (.sl (.pair (.int .i64) (.pair (.int .i64) .str)))))], hand := [], cuts := [] }),
     (35, { res := [(.one (.pv .str))], hand := [], cuts := [] }),
     (38, { res := [(.one (.pv .str))], hand := [], cuts := [] }),
     (39, { res := [(.one (.pv .bool))], hand := [], cuts := [] }),
     (40, { res := [(.one (.pv .bool))], hand := [], cuts := [] }),
     (41, { res := [(.one (.pv .bool))], hand := [], cuts := [] }),
     (42, { res := [(.one (.pv (.int .i64)))], hand := [], cuts := [] }),
     (43, { res := [(.one (.pv (.pair .str (.sl (.pair .str .str)))))], hand := [(0, .ptr [(.pv (.sl (.int .u8))), (.pv (.int .i64))])], cuts := [(259582, [(0, .box true [(.pv (.sl (.int .u8))), (.pv (.int .i64))]), (4, .box false [(.pv .str), (.pv (.sl (.pair .str .str)))]), (5, .box false [(.pv .str), (.own (.pair .str .str) 0)])])] }),
     (47, { res := [(.one (.pv .bool))], hand := [], cuts := [] }),
     (48, { res := [(.one (.pv .str))], hand := [], cuts := [] }),
     (49, { res := [(.one (.pv (.int .i64)))], hand := [], cuts := [(26, [(0, .one (.pv (.sl (.pair .str .str)))), (3, .box false [(.pv .str), (.pv .str)]), (7, .one (.pv (.int .i64))), (8, .one (.pv (.int .i64)))])] }),
     (50, { res := [(.one (.pv .bool))], hand := [], cuts := [] }),
     (51, { res := [(.one (.pv .bool))], hand := [], cuts := [] }),
     (52, { res := [(.one (.pv (.int .i64)))], hand := [(0, .ptr [(.pv (.sl (.int .u8))), (.pv (.int .i64))])], cuts := [] }),
     (53, { res := [(.one (.pv .str))], hand := [(0, .ptr [(.pv (.sl (.int .u8))), (.pv (.int .i64))])], cuts := [] }),
     (54, { res := [(.one (.pv (.pair .str (.sl (.pair .str .str)))))], hand := [], cuts := [] }),
     (55, { res := [(.one (.pv (.int .i64)))], hand := [(0, .ptr [(.pv (.sl (.int .u8))), (.pv (.int .i64))])], cuts := [] }),
     (56, { res := [(.one (.pv .str))], hand := [(0, .ptr [(.pv (.sl (.int .u8))), (.pv (.int .i64))])], cuts := [(58, [(0, .box true [(.pv (.sl (.int .u8))), (.pv (.int .i64))]), (1, .one (.pv (.int .i64))), (5, .one (.pv .str)), (6, .one (.pv (.int .i64)))])] }),
     (57, { res := [(.one (.pv (.sl (.pair (.int .i64) (.pair (.int .i64) .str)))))], hand := [(0, .ptr [(.pv (.sl (.int .u8))), (.pv (.int .i64))])], cuts := [(506, [(0, .box true [(.pv (.sl (.int .u8))), (.pv (.int .i64))]), (3, .box false [(.pv .str), (.pv (.sl (.pair .str .str)))]), (5, .box false [(.pv .str), (.pv (.sl .str))]), (6, .one (.pv (.sl (.pair (.int .i64) (.pair (.int .i64) .str))))), (7, .one (.pv .str)), (8, .one (.pv (.int .i64)))]), (511, [(0, .box true [(.pv (.sl (.int .u8))), (.pv (.int .i64))]), (10, .one (.own (.pair (.int .i64) (.pair (.int .i64) .str)) 0))])] }),
     (59, { res := [(.one (.pv .bool))], hand := [], cuts := [] }),
     (60, { res := [(.one (.pv .bool))], hand := [], cuts := [] }),
     (61, { res := [(.one (.pv (.int .i64)))], hand := [], cuts := [(58, [(3, .one (.pv (.int .i64))), (6, .one (.pv (.sl (.int .i64)))), (7, .one (.pv (.int .i64))), (8, .one (.pv (.int .i64)))])] }),
     (62, { res := [(.one (.pv (.int .i64)))], hand := [], cuts := [] }),
     (63, { res := [(.one (.pv (.int .i64)))], hand := [], cuts := [] }),
     (76, { res := [(.one (.pv (.pair .str (.sl .str))))], hand := [], cuts := [] }),
     (77, { res := [(.one (.pv (.sl (.pair (.int .i64) (.pair (.int .i64) .str)))))], hand := [], cuts := [(60, [(3, .box false [(.pv .str), (.pv (.sl (.pair .str .str)))]), (4, .box false [(.pv .str), (.pv (.sl .str))]), (7, .one (.pv (.sl (.pair (.int .i64) (.pair (.int .i64) .str))))), (8, .one (.own (.pair (.int .i64) (.pair (.int .i64) .str)) 0))]), (123646, [(3, .box false [(.pv .str), (.pv (.sl (.pair .str .str)))]), (4, .box false [(.pv .str), (.pv (.sl .str))]), (7, .one (.pv (.sl (.pair (.int .i64) (.pair (.int .i64) .str))))), (8, .one (.own (.pair (.int .i64) (.pair (.int .i64) .str)) 0)), (11, .one (.pv .str)), (12, .one (.pv (.sl (.int .i64)))), (13, .one (.pv (.int .i64)))]), (7913362, [(3, .box false [(.pv .str), (.pv (.sl (.pair .str .str)))]), (4, .box false [(.pv .str), (.pv (.sl .str))]), (7, .one (.pv (.sl (.pair (.int .i64) (.pair (.int .i64) .str))))), (8, .one (.own (.pair (.int .i64) (.pair (.int .i64) .str)) 0)), (11, .one (.pv .str)), (12, .one (.pv (.sl (.int .i64)))), (13, .one (.pv (.int .i64))), (14, .one (.pv (.int .i64)))])] }),
     (78, { res := [(.one (.pv .str))], hand := [], cuts := [] }),
     (79, { res := [(.one (.pv (.sl (.pair (.int .i64) (.pair (.int .i64) .str)))))], hand := [], cuts := [(58, [(2, .one (.pv (.sl (.pair (.int .i64) (.pair (.int .i64) .str))))), (3, .one (.pv .str)), (4, .box false [(.pv .str), (.pv (.sl (.pair .str .str)))]), (5, .box false [(.pv .str), (.pv (.sl .str))]), (9, .one (.pv (.sl (.pair (.int .i64) (.pair (.int .i64) .str))))), (10, .one (.pv (.int .i64)))])] }),
     (81, { res := [(.one (.pv .bool))], hand := [], cuts := [] }),
     (82, { res := [(.one (.pv .bool))], hand := [], cuts := [] }),
     (83, { res := [(.one (.pv .bool))], hand := [], cuts := [] }),
     (94, { res := [(.one (.pv .str))], hand := [], cuts := [(58, [(1, .one (.pv .bool)), (2, .box false [(.pv .str), (.pv (.sl (.pair .str .str)))]), (5, .one (.pv .str)), (6, .one (.pv (.int .i64)))])] }),
     (95, { res := [(.one (.pv (.sl .str)))], hand := [], cuts := [(122, [(1, .box false [(.pv .str), (.pv (.sl (.pair .str .str)))]), (3, .one (.pv .str)), (4, .one (.own .str 0)), (5, .one (.pv (.int .i64)))])] }),
     (96, { res := [(.one (.pv .str))], hand := [], cuts := [] }),
     (97, { res := [(.one (.pv .str))], hand := [], cuts := [] }),
     (98, { res := [(.one (.pv (.sl (.int .i64))))], hand := [], cuts := [(58, [(1, .one (.pv .str)), (2, .box false [(.pv .str), (.pv (.sl (.pair .str .str)))]), (5, .one (.own (.int .i64) 0)), (6, .one (.pv (.int .i64)))])] }),
     (99, { res := [(.one (.pv (.sl (.pair (.int .i64) (.pair (.int .i64) .str)))))], hand := [], cuts := [(28, [(0, .one (.pv (.sl (.pair (.int .i64) (.pair (.int .i64) .str))))), (3, .box false [(.pv (.int .i64)), (.pv (.int .i64)), (.pv .str)]), (5, .one (.pv (.int .i64)))])] }),
     (100, { res := [(.one (.pv .str))], hand := [], cuts := [(122, [(1, .one (.pv .bool)), (2, .box false [(.pv .str), (.pv (.sl (.pair .str .str)))]), (5, .one (.pv .str)), (6, .one (.pv .str)), (7, .one (.pv (.int .i64)))]), (250, [(1, .one (.pv .bool)), (5, .one (.pv .str)), (6, .one (.pv .str)), (8, .one (.pv (.int .i64)))])] }),
     (101, { res := [(.one (.pv .bool))], hand := [], cuts := [] }),
     (107, { res := [(.one (.pv .bool))], hand := [], cuts := [(26, [(0, .one (.pv .str)), (1, .one (.pv (.int .u8))), (5, .one (.pv (.int .i64)))])] }),
     (108, { res := [(.one (.pv .bool))], hand := [], cuts := [(26, [(0, .one (.pv .str)), (1, .one (.pv .str)), (2, .one (.pv .bool)), (7, .one (.pv (.int .i64)))])] }),
     (109, { res := [(.one (.pv .str))], hand := [], cuts := [(28, [(0, .one (.pv .str)), (1, .one (.pv (.int .u8))), (5, .one (.pv (.int .i64)))])] }),
     (110, { res := [(.one (.pv .str))], hand := [], cuts := [(26, [(0, .one (.pv .str)), (1, .one (.pv .str)), (5, .one (.pv (.int .i64)))])] }),
     (111, { res := [(.one (.pv .str))], hand := [], cuts := [(58, [(0, .one (.pv (.sl .str))), (1, .one (.pv .str)), (2, .one (.pv .str)), (7, .one (.pv .str)), (8, .one (.pv (.int .i64)))])] })]
def eqs : List (Nat × List Ty) := [(4, [.bool]), (41, [.str, .str]), (61, [(.int .i64), (.int .i64), .str])]
def A : Ann := Ann.mk tys eqs fns [34] [] [] []
def X : Ext A := ⟨fun f => Nat.beq f 15 || Nat.beq f 48 || Nat.beq f 65 || Nat.beq f 68, fun S f args => match f, args with
  | 15, [.agg [.d .str s, .d (.sl (.pair .str .str)) rs], .d (.sl (.pair (.int .i64) (.pair (.int .i64) .str))) l] => (show Option Bool from S.call 18 [.agg [.d .str s, .d (.sl (.pair .str .str)) rs], .d (.sl (.pair (.int .i64) (.pair (.int .i64) .str))) l]).bind fun b => ifE (b = true) (ifE (allFitE s rs l = true ∧ (linesE s rs l).length ≤ 140737488355328) (some (linesE s rs l)) none) (some ([] : List UInt8))
  | 48, [.d .str s, .d .str c] => ifE (s.length ≤ 9223372036854775807 ∧ c.length < 4294967281 ∧ (c.all fun b => decide (b.toNat < 128)) = true) (some (trimE s c)) none
  | _, _ => none⟩
end Go.Proofs.YtpoppblfnaipbaaDoor.TA
