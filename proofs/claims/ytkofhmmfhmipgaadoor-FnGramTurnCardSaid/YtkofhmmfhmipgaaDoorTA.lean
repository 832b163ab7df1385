import Derived.Test.YtkofhmmfhmipgaaDoorK1
namespace Go.Proofs.YtkofhmmfhmipgaaDoor.TA
open Go Go.Proofs.YtkofhmmfhmipgaaDoor.Eng
set_option maxRecDepth 100000
set_option linter.unusedVariables false
def tys : List (Nat × Ty) :=
  [(2, .int .i64), (3, .int .i64), (4, .bool), (5, .int .u8), (6, .int .u8), (7, .pair (.int .i64) (.pair (.int .i64) (.pair .bool (.int .u8)))), (8, .pair (.int .i64) (.pair (.int .i64) (.pair .bool (.int .u8)))), (9, .str), (10, .str), (11, .str), (12, .int .u64), (13, .pair .str (.int .u64)), (14, .pair .str (.int .u64)), (21, .int .i32), (22, .sl (.int .u8)), (23, .sl (.pair .str .str)), (24, .pair .str (.sl (.pair .str .str))), (25, .pair .str (.sl (.pair .str .str))), (26, .sl .tree), (27, .pair .str (.pair (.int .i64) (.sl .tree))), (28, .tree), (45, .sl (.int .i64)), (48, .pair .str .str), (49, .pair .str .str), (62, .sl (.pair (.int .i64) (.pair (.int .i64) .str))), (94, .sl .str), (108, .pair (.int .i64) (.pair (.int .i64) .str)), (109, .pair (.int .i64) (.pair (.int .i64) .str)), (120, .pair (.sl (.int .u8)) (.int .i64)), (121, .pair (.sl (.int .u8)) (.int .i64)), (141, .sl (.ent (.pair .str (.pair (.int .i64) (.int .i64))) .bool)), (142, .pair (.pair .str (.sl (.pair .str .str))) (.pair .str (.sl (.ent (.pair .str (.pair (.int .i64) (.int .i64))) .bool)))), (143, .pair (.pair .str (.sl (.pair .str .str))) (.pair .str (.sl (.ent (.pair .str (.pair (.int .i64) (.int .i64))) .bool)))), (144, .pair .str (.pair (.int .i64) (.int .i64))), (145, .pair .str (.pair (.int .i64) (.int .i64))), (155, .pair .str (.sl .str)), (156, .pair .str (.sl .str)), (167, .int .u64), (175, .int .u32), (180, .int .u64), (189, .pair (.int .u8) (.int .u8)), (190, .pair (.int .u8) (.int .u8)), (206, .int .u8), (207, .int .u8), (209, .int .i32), (210, .int .i32)]
def fns : List (Nat × FA) :=
    [
     (5, { res := [(.one (.pv .bool))], hand := [], cuts := [(2042, [(3, .box false [(.pv .str), (.pv (.sl (.pair .str .str)))]), (5, .one (.pv .str)), (6, .box false [(.pv .str), (.pv (.sl (.pair .str .str)))]), (7, .one (.pv .str)), (8, .one (.pv (.int .i64)))])] }),
     (22, { res := [(.one (.pv (.pair .str (.sl (.pair .str .str)))))], hand := [], cuts := [] }),
     (23, { res := [(.one (.pv (.pair .str (.sl (.pair .str .str)))))], hand := [], cuts := [] }),
     (24, { res := [(.one (.pv (.pair .str (.sl (.pair .str .str))))), (.one (.pv .str))], hand := [], cuts := [] }),
     (25, { res := [(.one (.pv .bool))], hand := [], cuts := [] }),
     (26, { res := [(.one (.pv (.pair .str (.sl (.pair .str .str)))))], hand := [], cuts := [(122, [(1, .box false [(.pv .str), (.pv (.sl (.pair .str .str)))]), (2, .box false [(.pv .str), (.pv (.sl (.pair .str .str)))]), (3, .box false [(.pv .str), (.own (.pair .str .str) 0)]), (4, .one (.pv (.int .i64)))])] }),
     (27, { res := [(.one (.pv .bool))], hand := [], cuts := [(58, [(1, .box false [(.pv .str), (.pv (.sl (.pair .str .str)))]), (3, .one (.pv (.int .i64)))])] }),
     (28, { res := [(.one (.pv .bool))], hand := [], cuts := [] }),
     (34, { res := [(.one (.pv .bool))], hand := [], cuts := [] }),
     (41, { res := [(.one (.pv .bool))], hand := [], cuts := [(58, [(1, .box false [(.pv .str), (.pv (.sl (.pair .str .str)))]), (16, .one (.pv (.sl (.pair .str .str)))), (17, .one (.pv (.int .i64))), (18, .one (.pv (.int .i64)))])] }),
     (54, { res := [(.ptr [(.pv (.sl (.int .u8))), (.pv (.int .i64))])], hand := [], cuts := [] }),
     (62, { res := [(.one (.pv (.pair .str (.sl (.pair .str .str)))))], hand := [], cuts := [(58, [(2, .one .any), (6, .box false [(.pv .str), (.pv (.sl (.pair .str .str)))]), (7, .box false [(.pv .str), (.own (.pair .str .str) 0)]), (13, .one (.pv (.sl (.pair .str .str)))), (14, .one (.pv (.int .i64))), (15, .one (.pv (.int .i64)))])] }),
     (63, { res := [(.one (.pv (.pair .str .str)))], hand := [], cuts := [] }),
     (64, { res := [(.one (.pv .str))], hand := [], cuts := [] }),
     (65, { res := [(.one (.pv (.pair .str (.sl (.pair .str .str)))))], hand := [], cuts := [] }),
     (66, { res := [(.one (.pv (.pair .str (.sl (.pair .str .str))))), (.one (.pv .str))], hand := [], cuts := [] }),
     (67, { res := [(.one (.pv .bool))], hand := [], cuts := [(58, [(0, .one (.pv (.sl (.pair .str .str)))), (1, .one (.pv (.sl (.pair .str .str)))), (12, .one (.pv (.int .i64))), (13, .one (.pv (.int .i64)))])] }),
     (68, { res := [(.one (.pv .str))], hand := [], cuts := [(58, [(0, .one (.pv .str)), (3, .one (.pv .str)), (4, .one (.pv (.int .i64)))])] }),
     (69, { res := [(.one (.pv .bool))], hand := [], cuts := [] }),
     (70, { res := [(.one (.pv .bool))], hand := [], cuts := [(26, [(0, .one (.pv .str)), (1, .one (.pv (.int .i64))), (5, .one (.pv (.int .i64)))])] }),
     (71, { res := [(.one (.pv (.int .i64)))], hand := [], cuts := [(26, [(0, .one (.pv (.sl (.pair .str .str)))), (3, .box false [(.pv .str), (.pv .str)]), (5, .one (.pv (.int .i64)))])] }),
     (72, { res := [(.one (.pv .bool))], hand := [], cuts := [] }),
     (73, { res := [(.one (.pv .bool))], hand := [], cuts := [] }),
     (77, { res := [(.one (.pv .bool))], hand := [], cuts := [] }),
     (78, { res := [(.one (.pv (.int .i64)))], hand := [(0, .ptr [(.pv (.sl (.int .u8))), (.pv (.int .i64))])], cuts := [] }),
     (79, { res := [(.one (.pv (.int .i64)))], hand := [(0, .ptr [(.pv (.sl (.int .u8))), (.pv (.int .i64))])], cuts := [] }),
     (84, { res := [(.one (.pv .bool))], hand := [], cuts := [] }),
     (85, { res := [(.one (.pv .bool))], hand := [], cuts := [] }),
     (86, { res := [(.one (.pv .bool))], hand := [], cuts := [] }),
     (88, { res := [(.one (.pv (.pair .str (.sl (.pair .str .str)))))], hand := [(0, .ptr [(.pv (.sl (.int .u8))), (.pv (.int .i64))])], cuts := [(122, [(0, .box true [(.pv (.sl (.int .u8))), (.pv (.int .i64))]), (2, .box false [(.pv .str), (.pv (.sl (.pair .str .str)))]), (3, .box false [(.pv .str), (.own (.pair .str .str) 0)]), (4, .one (.pv (.int .i64)))])] }),
     (91, { res := [(.one (.pv .str))], hand := [(0, .ptr [(.pv (.sl (.int .u8))), (.pv (.int .i64))])], cuts := [] }),
     (103, { res := [(.agg [.pv .str, .pv (.int .i64), .own .tree 0])], hand := [(0, .ptr [(.pv (.sl (.int .u8))), (.pv (.int .i64))])], cuts := [(127, [(0, .box true [(.pv (.sl (.int .u8))), (.pv (.int .i64))]), (2, .one (.pv .str)), (3, .one (.pv (.int .i64))), (5, .box false [(.pv .str), (.pv (.sl (.pair .str .str)))]), (8, .box false [(.pv .str), (.pv (.int .i64)), (.pv (.sl .tree))]), (10, .one (.pv (.int .i64)))]), (2026, [(0, .box true [(.pv (.sl (.int .u8))), (.pv (.int .i64))]), (2, .one (.pv .str)), (3, .one (.pv (.int .i64))), (5, .box false [(.pv .str), (.pv (.sl (.pair .str .str)))]), (8, .box false [(.pv .str), (.pv (.int .i64)), (.pv (.sl .tree))]), (9, .one (.pv (.sl (.int .i64)))), (10, .one (.pv (.int .i64))), (11, .one (.pv (.int .i64)))]), (2042, [(0, .box true [(.pv (.sl (.int .u8))), (.pv (.int .i64))]), (3, .one (.pv (.int .i64))), (5, .box false [(.pv .str), (.pv (.sl (.pair .str .str)))]), (8, .box false [(.pv .str), (.pv (.int .i64)), (.pv (.sl .tree))]), (10, .one (.pv (.int .i64))), (12, .box false [(.pv .str), (.pv (.int .i64)), (.own .tree 0)]), (13, .one (.pv (.int .i64)))])] }),
     (104, { res := [(.one (.pv (.pair .str (.sl (.pair .str .str)))))], hand := [(0, .ptr [(.pv (.sl (.int .u8))), (.pv (.int .i64))])], cuts := [(259582, [(0, .box true [(.pv (.sl (.int .u8))), (.pv (.int .i64))]), (4, .box false [(.pv .str), (.pv (.sl (.pair .str .str)))]), (5, .box false [(.pv .str), (.own (.pair .str .str) 0)])])] }),
     (105, { res := [(.one (.pv .bool))], hand := [], cuts := [] }),
     (107, { res := [(.one (.pv .str))], hand := [(0, .ptr [(.pv (.sl (.int .u8))), (.pv (.int .i64))])], cuts := [(7, [(0, .box true [(.pv (.sl (.int .u8))), (.pv (.int .i64))])])] }),
     (108, { res := [(.one (.pv .bool))], hand := [], cuts := [] }),
     (109, { res := [(.one (.pv .bool))], hand := [], cuts := [] }),
     (110, { res := [(.one (.pv .bool))], hand := [], cuts := [] }),
     (111, { res := [(.ptr [(.pv .str), (.pv (.sl (.pair .str .str))), (.pv .str), (.own (.ent (.pair .str (.pair (.int .i64) (.int .i64))) .bool) 0)])], hand := [], cuts := [(58, [(1, .one (.pv .str)), (2, .box false [(.pv .str), (.pv (.sl (.pair .str .str)))]), (5, .box false [(.pv .str), (.pv (.sl (.pair .str .str))), (.pv .str), (.own (.ent (.pair .str (.pair (.int .i64) (.int .i64))) .bool) 0)]), (6, .one (.pv .bool))]), (3734, [(1, .one (.pv .str)), (2, .box false [(.pv .str), (.pv (.sl (.pair .str .str)))]), (5, .box false [(.pv .str), (.pv (.sl (.pair .str .str))), (.pv .str), (.own (.ent (.pair .str (.pair (.int .i64) (.int .i64))) .bool) 0)]), (6, .one (.pv .bool)), (7, .one (.pv (.int .i64)))]), (238994, [(1, .one (.pv .str)), (2, .box false [(.pv .str), (.pv (.sl (.pair .str .str)))]), (5, .box false [(.pv .str), (.pv (.sl (.pair .str .str))), (.pv .str), (.own (.ent (.pair .str (.pair (.int .i64) (.int .i64))) .bool) 0)]), (6, .one (.pv .bool)), (7, .one (.pv (.int .i64))), (8, .one (.pv (.int .i64)))]), (15295634, [(1, .one (.pv .str)), (2, .box false [(.pv .str), (.pv (.sl (.pair .str .str)))]), (5, .box false [(.pv .str), (.pv (.sl (.pair .str .str))), (.pv .str), (.own (.ent (.pair .str (.pair (.int .i64) (.int .i64))) .bool) 0)]), (6, .one (.pv .bool)), (7, .one (.pv (.int .i64))), (8, .one (.pv (.int .i64))), (32, .one (.pv (.sl (.pair .str .str)))), (33, .one (.pv (.int .i64))), (34, .one (.pv (.int .i64)))])] }),
     (112, { res := [(.one (.pv .bool))], hand := [], cuts := [] }),
     (117, { res := [(.one (.pv .str))], hand := [], cuts := [] }),
     (118, { res := [(.one (.pv (.int .i64)))], hand := [], cuts := [(26, [(0, .one (.pv (.sl (.pair .str .str)))), (3, .box false [(.pv .str), (.pv .str)]), (7, .one (.pv (.int .i64))), (8, .one (.pv (.int .i64)))])] }),
     (119, { res := [(.one (.pv (.pair .str (.sl (.pair .str .str)))))], hand := [], cuts := [] }),
     (120, { res := [(.one (.pv .str))], hand := [(0, .ptr [(.pv (.sl (.int .u8))), (.pv (.int .i64))])], cuts := [(58, [(0, .box true [(.pv (.sl (.int .u8))), (.pv (.int .i64))]), (1, .one (.pv (.int .i64))), (5, .one (.pv .str)), (6, .one (.pv (.int .i64)))])] }),
     (130, { res := [(.one (.pv (.sl (.int .i64))))], hand := [], cuts := [(58, [(1, .one (.pv .str)), (2, .box false [(.pv .str), (.pv (.sl (.pair .str .str)))]), (5, .one (.own (.int .i64) 0)), (6, .one (.pv (.int .i64)))])] }),
     (131, { res := [(.one (.pv .str))], hand := [], cuts := [(122, [(1, .box false [(.pv .str), (.pv (.int .i64)), (.pv (.sl .tree))]), (3, .one (.pv .str)), (4, .one (.pv (.int .i64)))])] }),
     (132, { res := [(.one (.pv .bool))], hand := [], cuts := [(26, [(0, .one (.pv .str)), (3, .one (.pv (.int .i64)))])] }),
     (133, { res := [(.one (.pv .str))], hand := [(0, .ptr [(.pv (.sl (.int .u8))), (.pv (.int .i64))])], cuts := [(58, [(0, .box true [(.pv (.sl (.int .u8))), (.pv (.int .i64))]), (1, .one (.pv (.int .i64))), (5, .one (.pv .str)), (6, .one (.pv (.int .i64)))])] }),
     (134, { res := [(.one (.pv .bool))], hand := [], cuts := [] }),
     (135, { res := [(.one (.pv .bool))], hand := [], cuts := [(58, [(0, .one .any), (1, .one (.pv .str)), (2, .one (.pv (.int .i64))), (3, .one (.pv (.int .i64))), (9, .one (.pv (.int .i64)))])] })]
def eqs : List (Nat × List Ty) := [(4, [.bool]), (49, [.str, .str]), (109, [(.int .i64), (.int .i64), .str]), (145, [.str, (.int .i64), (.int .i64)])]
def A : Ann := Ann.mk tys eqs fns
def X : Ext A := ⟨fun f => Nat.beq f 21 || Nat.beq f 64 || Nat.beq f 117, fun f args => match f, args with
  | 64, [.d .str s] => ifE (s.length ≤ 140737488355328) (some s.reverse) none
  | 117, [.d .str s, .d .str c] => ifE (s.length ≤ 9223372036854775807 ∧ c.length < 4294967281 ∧ (c.all fun b => decide (b.toNat < 128)) = true) (some (trimE s c)) none
  | _, _ => none⟩
end Go.Proofs.YtkofhmmfhmipgaaDoor.TA
