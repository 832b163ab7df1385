import Derived.Test.YtglbhoccilomiaaDoorK1
namespace Go.Proofs.YtglbhoccilomiaaDoor.TA
open Go Go.Proofs.YtglbhoccilomiaaDoor.Eng
set_option maxRecDepth 100000
set_option linter.unusedVariables false
def tys : List (Nat × Ty) :=
  [(2, .int .i64), (3, .int .i64), (4, .bool), (5, .int .u8), (6, .int .u8), (7, .pair (.int .i64) (.pair (.int .i64) (.pair .bool (.int .u8)))), (8, .pair (.int .i64) (.pair (.int .i64) (.pair .bool (.int .u8)))), (9, .str), (10, .str), (11, .str), (12, .int .u64), (13, .pair .str (.int .u64)), (14, .pair .str (.int .u64)), (21, .int .i32), (22, .sl (.int .u8)), (23, .sl (.pair (.int .i64) (.pair .str (.int .i64)))), (24, .sl (.pair (.int .i64) (.pair .str (.int .i64)))), (25, .pair (.int .i64) (.pair (.sl (.pair (.int .i64) (.pair .str (.int .i64)))) (.sl (.pair (.int .i64) (.pair .str (.int .i64)))))), (26, .pair (.int .i64) (.pair (.sl (.pair (.int .i64) (.pair .str (.int .i64)))) (.sl (.pair (.int .i64) (.pair .str (.int .i64)))))), (29, .sl (.pair .str .str)), (30, .pair .str (.sl (.pair .str .str))), (31, .pair .str (.sl (.pair .str .str))), (37, .pair (.int .i64) (.pair (.int .i64) .str)), (38, .pair (.int .i64) (.pair (.int .i64) .str)), (43, .pair .str .str), (44, .pair .str .str), (52, .pair (.int .i64) (.pair .str (.int .i64))), (53, .pair (.int .i64) (.pair .str (.int .i64))), (57, .pair (.int .i64) (.pair .str (.int .i64))), (58, .pair (.int .i64) (.pair .str (.int .i64))), (65, .sl (.pair (.int .i64) (.pair (.int .i64) .str))), (68, .pair (.sl (.int .u8)) (.int .i64)), (69, .pair (.sl (.int .u8)) (.int .i64)), (73, .sl (.int .i64)), (75, .sl .str), (84, .pair .str (.sl .str)), (85, .pair .str (.sl .str)), (91, .sl (.sl (.pair (.int .i64) (.pair (.int .i64) .str)))), (120, .int .u64), (121, .pair (.int .u8) (.int .u8)), (122, .pair (.int .u8) (.int .u8)), (134, .int .u32), (135, .int .u8), (136, .int .u8), (139, .int .i32), (140, .int .i32), (145, .int .u64)]
def fns : List (Nat × FA) :=
    [
     (4, { res := [(.one (.pv .bool))], hand := [], cuts := [(511, [(3, .box false [(.pv .str), (.pv (.sl (.pair .str .str)))]), (4, .box false [(.pv (.int .i64)), (.pv (.int .i64)), (.pv .str)]), (6, .one (.pv .str))])] }),
     (11, { res := [(.one (.pv (.pair .str (.sl (.pair .str .str))))), (.one (.pv (.pair (.int .i64) (.pair (.int .i64) .str))))], hand := [], cuts := [] }),
     (12, { res := [(.one (.pv .bool))], hand := [], cuts := [] }),
     (13, { res := [(.one (.pv .bool))], hand := [], cuts := [] }),
     (14, { res := [(.one (.pv .str))], hand := [], cuts := [] }),
     (15, { res := [(.one (.pv .str))], hand := [], cuts := [] }),
     (16, { res := [(.ptr [(.pv (.sl (.int .u8))), (.pv (.int .i64))])], hand := [], cuts := [] }),
     (19, { res := [(.one (.pv .bool))], hand := [], cuts := [(58, [(1, .box false [(.pv .str), (.pv (.sl (.pair .str .str)))]), (16, .one (.pv (.sl (.pair .str .str)))), (17, .one (.pv (.int .i64))), (18, .one (.pv (.int .i64)))])] }),
     (29, { res := [(.one (.pv .bool))], hand := [], cuts := [(58, [(1, .box false [(.pv .str), (.pv (.sl (.pair .str .str)))]), (3, .one (.pv (.int .i64)))])] }),
     (31, { res := [(.one (.pv .bool))], hand := [], cuts := [] }),
     (32, { res := [(.one (.pv .bool))], hand := [], cuts := [] }),
     (33, { res := [(.one (.pv .bool))], hand := [], cuts := [] }),
     (34, { res := [(.one (.pv (.pair .str (.sl (.pair .str .str)))))], hand := [(0, .ptr [(.pv (.sl (.int .u8))), (.pv (.int .i64))])], cuts := [(259582, [(0, .box true [(.pv (.sl (.int .u8))), (.pv (.int .i64))]), (4, .box false [(.pv .str), (.pv (.sl (.pair .str .str)))]), (5, .box false [(.pv .str), (.own (.pair .str .str) 0)])])] }),
     (35, { res := [(.one (.pv (.pair .str (.sl (.pair .str .str)))))], hand := [(0, .ptr [(.pv (.sl (.int .u8))), (.pv (.int .i64))])], cuts := [(122, [(0, .box true [(.pv (.sl (.int .u8))), (.pv (.int .i64))]), (2, .box false [(.pv .str), (.pv (.sl (.pair .str .str)))]), (3, .box false [(.pv .str), (.own (.pair .str .str) 0)]), (4, .one (.pv (.int .i64)))])] }),
     (36, { res := [(.one (.pv (.sl (.pair (.int .i64) (.pair (.int .i64) .str)))))], hand := [(0, .ptr [(.pv (.sl (.int .u8))), (.pv (.int .i64))])], cuts := [(506, [(0, .box true [(.pv (.sl (.int .u8))), (.pv (.int .i64))]), (3, .box false [(.pv .str), (.pv (.sl (.pair .str .str)))]), (5, .box false [(.pv .str), (.pv (.sl .str))]), (6, .one (.pv (.sl (.pair (.int .i64) (.pair (.int .i64) .str))))), (7, .one (.pv .str)), (8, .one (.pv (.int .i64)))]), (511, [(0, .box true [(.pv (.sl (.int .u8))), (.pv (.int .i64))]), (10, .one (.own (.pair (.int .i64) (.pair (.int .i64) .str)) 0))])] }),
     (37, { res := [(.one (.pv (.int .i64)))], hand := [(0, .ptr [(.pv (.sl (.int .u8))), (.pv (.int .i64))])], cuts := [] }),
     (38, { res := [(.one (.pv .bool))], hand := [], cuts := [] }),
     (39, { res := [(.one (.pv .bool))], hand := [], cuts := [] }),
     (40, { res := [(.one (.pv .str))], hand := [], cuts := [] }),
     (41, { res := [(.one (.pv .str))], hand := [], cuts := [] }),
     (43, { res := [(.one (.pv (.int .i64)))], hand := [(0, .ptr [(.pv (.sl (.int .u8))), (.pv (.int .i64))])], cuts := [] }),
     (44, { res := [(.one (.pv .str))], hand := [(0, .ptr [(.pv (.sl (.int .u8))), (.pv (.int .i64))])], cuts := [] }),
     (45, { res := [(.one (.pv .bool))], hand := [], cuts := [] }),
     (46, { res := [(.one (.pv .bool))], hand := [], cuts := [] }),
     (47, { res := [(.one (.pv .bool))], hand := [], cuts := [] }),
     (49, { res := [(.one (.pv .bool))], hand := [], cuts := [] }),
     (51, { res := [(.one (.pv .bool))], hand := [], cuts := [(26, [(0, .one (.pv .str)), (1, .one (.pv (.int .i64))), (5, .one (.pv (.int .i64)))])] }),
     (52, { res := [(.one (.pv (.int .i64)))], hand := [], cuts := [(26, [(0, .one (.pv (.sl (.pair .str .str)))), (3, .box false [(.pv .str), (.pv .str)]), (5, .one (.pv (.int .i64)))])] }),
     (53, { res := [(.one (.pv .bool))], hand := [], cuts := [] }),
     (54, { res := [(.one (.pv .bool))], hand := [], cuts := [] }),
     (55, { res := [(.one (.pv .str))], hand := [(0, .ptr [(.pv (.sl (.int .u8))), (.pv (.int .i64))])], cuts := [(58, [(0, .box true [(.pv (.sl (.int .u8))), (.pv (.int .i64))]), (1, .one (.pv (.int .i64))), (5, .one (.pv .str)), (6, .one (.pv (.int .i64)))])] }),
     (56, { res := [(.one (.pv (.pair .str (.sl (.pair .str .str)))))], hand := [], cuts := [] }),
     (57, { res := [(.one (.pv (.pair .str (.sl .str))))], hand := [], cuts := [] }),
     (58, { res := [(.one (.pv (.sl (.pair (.int .i64) (.pair (.int .i64) .str)))))], hand := [], cuts := [(60, [(3, .box false [(.pv .str), (.pv (.sl (.pair .str .str)))]), (4, .box false [(.pv .str), (.pv (.sl .str))]), (7, .one (.pv (.sl (.pair (.int .i64) (.pair (.int .i64) .str))))), (8, .one (.own (.pair (.int .i64) (.pair (.int .i64) .str)) 0))]), (123646, [(3, .box false [(.pv .str), (.pv (.sl (.pair .str .str)))]), (4, .box false [(.pv .str), (.pv (.sl .str))]), (7, .one (.pv (.sl (.pair (.int .i64) (.pair (.int .i64) .str))))), (8, .one (.own (.pair (.int .i64) (.pair (.int .i64) .str)) 0)), (11, .one (.pv .str)), (12, .one (.pv (.sl (.int .i64)))), (13, .one (.pv (.int .i64)))]), (7913362, [(3, .box false [(.pv .str), (.pv (.sl (.pair .str .str)))]), (4, .box false [(.pv .str), (.pv (.sl .str))]), (7, .one (.pv (.sl (.pair (.int .i64) (.pair (.int .i64) .str))))), (8, .one (.own (.pair (.int .i64) (.pair (.int .i64) .str)) 0)), (11, .one (.pv .str)), (12, .one (.pv (.sl (.int .i64)))), (13, .one (.pv (.int .i64))), (14, .one (.pv (.int .i64)))])] }),
     (59, { res := [(.one (.pv .str))], hand := [], cuts := [] }),
     (60, { res := [(.one (.pv (.sl (.pair (.int .i64) (.pair (.int .i64) .str)))))], hand := [], cuts := [(58, [(2, .one (.pv (.sl (.pair (.int .i64) (.pair (.int .i64) .str))))), (3, .one (.pv .str)), (4, .box false [(.pv .str), (.pv (.sl (.pair .str .str)))]), (5, .box false [(.pv .str), (.pv (.sl .str))]), (9, .one (.pv (.sl (.pair (.int .i64) (.pair (.int .i64) .str))))), (10, .one (.pv (.int .i64)))])] }),
     (61, { res := [(.one (.pv .str))], hand := [], cuts := [] }),
     (62, { res := [(.one (.pv .str))], hand := [], cuts := [] }),
     (65, { res := [(.one (.pv .bool))], hand := [], cuts := [] }),
     (66, { res := [(.one (.pv .str))], hand := [], cuts := [] }),
     (67, { res := [(.one (.pv (.int .i64)))], hand := [], cuts := [(26, [(0, .one (.pv (.sl (.pair .str .str)))), (3, .box false [(.pv .str), (.pv .str)]), (7, .one (.pv (.int .i64))), (8, .one (.pv (.int .i64)))])] }),
     (68, { res := [(.one (.pv .str))], hand := [], cuts := [(58, [(1, .one (.pv .bool)), (2, .box false [(.pv .str), (.pv (.sl (.pair .str .str)))]), (5, .one (.pv .str)), (6, .one (.pv (.int .i64)))])] }),
     (69, { res := [(.one (.pv (.sl .str)))], hand := [], cuts := [(122, [(1, .box false [(.pv .str), (.pv (.sl (.pair .str .str)))]), (3, .one (.pv .str)), (4, .one (.own .str 0)), (5, .one (.pv (.int .i64)))])] }),
     (70, { res := [(.one (.pv .str))], hand := [], cuts := [] }),
     (71, { res := [(.one (.pv (.sl (.int .i64))))], hand := [], cuts := [(58, [(1, .one (.pv .str)), (2, .box false [(.pv .str), (.pv (.sl (.pair .str .str)))]), (5, .one (.own (.int .i64) 0)), (6, .one (.pv (.int .i64)))])] }),
     (72, { res := [(.one (.pv (.sl (.pair (.int .i64) (.pair (.int .i64) .str)))))], hand := [], cuts := [(28, [(0, .one (.pv (.sl (.pair (.int .i64) (.pair (.int .i64) .str))))), (3, .box false [(.pv (.int .i64)), (.pv (.int .i64)), (.pv .str)]), (5, .one (.pv (.int .i64)))])] }),
     (73, { res := [(.one (.pv .str))], hand := [], cuts := [(122, [(1, .one (.pv .bool)), (2, .box false [(.pv .str), (.pv (.sl (.pair .str .str)))]), (5, .one (.pv .str)), (6, .one (.pv .str)), (7, .one (.pv (.int .i64)))]), (250, [(1, .one (.pv .bool)), (5, .one (.pv .str)), (6, .one (.pv .str)), (8, .one (.pv (.int .i64)))])] }),
     (83, { res := [(.one (.pv .bool))], hand := [], cuts := [(26, [(0, .one (.pv .str)), (1, .one (.pv (.int .u8))), (5, .one (.pv (.int .i64)))])] }),
     (84, { res := [(.one (.pv .bool))], hand := [], cuts := [(26, [(0, .one (.pv .str)), (1, .one (.pv .str)), (2, .one (.pv .bool)), (7, .one (.pv (.int .i64)))])] }),
     (85, { res := [(.one (.pv .str))], hand := [], cuts := [(28, [(0, .one (.pv .str)), (1, .one (.pv (.int .u8))), (5, .one (.pv (.int .i64)))])] }),
     (86, { res := [(.one (.pv .str))], hand := [], cuts := [(26, [(0, .one (.pv .str)), (1, .one (.pv .str)), (5, .one (.pv (.int .i64)))])] }),
     (87, { res := [(.one (.pv .str))], hand := [], cuts := [(58, [(0, .one (.pv (.sl .str))), (1, .one (.pv .str)), (2, .one (.pv .str)), (7, .one (.pv .str)), (8, .one (.pv (.int .i64)))])] }),
     (88, { res := [(.one (.pv .bool))], hand := [], cuts := [] })]
def eqs : List (Nat × List Ty) := [(4, [.bool]), (38, [(.int .i64), (.int .i64), .str]), (44, [.str, .str]), (53, [(.int .i64), .str, (.int .i64)]), (58, [(.int .i64), .str, (.int .i64)])]
def A : Ann := Ann.mk tys eqs fns [65]
def X : Ext A := ⟨fun f => Nat.beq f 66, fun f args => match f, args with
  | 66, [.d .str s, .d .str c] => ifE (s.length ≤ 9223372036854775807 ∧ c.length < 4294967281 ∧ (c.all fun b => decide (b.toNat < 128)) = true) (some (trimE s c)) none
  | _, _ => none⟩
end Go.Proofs.YtglbhoccilomiaaDoor.TA
