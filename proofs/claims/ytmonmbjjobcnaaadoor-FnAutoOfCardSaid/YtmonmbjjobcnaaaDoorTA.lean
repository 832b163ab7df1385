import Derived.Test.YtmonmbjjobcnaaaDoorK1
namespace Go.Proofs.YtmonmbjjobcnaaaDoor.TA
open Go Go.Proofs.YtmonmbjjobcnaaaDoor.Eng
set_option maxRecDepth 100000
set_option linter.unusedVariables false
def tys : List (Nat × Ty) :=
  [(2, .int .i64), (3, .int .i64), (4, .bool), (5, .int .u8), (6, .int .u8), (7, .pair (.int .i64) (.pair (.int .i64) (.pair .bool (.int .u8)))), (8, .pair (.int .i64) (.pair (.int .i64) (.pair .bool (.int .u8)))), (9, .str), (10, .str), (11, .str), (12, .int .u64), (13, .pair .str (.int .u64)), (14, .pair .str (.int .u64)), (21, .int .i32), (22, .sl (.int .u8)), (23, .sl .bool), (24, .sl (.sl (.int .i64))), (25, .pair (.int .i64) (.pair (.sl .bool) (.sl (.sl (.int .i64))))), (26, .pair (.int .i64) (.pair (.sl .bool) (.sl (.sl (.int .i64))))), (40, .sl (.pair .str .str)), (41, .pair .str (.sl (.pair .str .str))), (42, .pair .str (.sl (.pair .str .str))), (59, .sl (.int .i64)), (73, .pair (.int .i64) (.int .i64)), (74, .sl (.pair (.int .i64) (.int .i64))), (76, .pair (.int .i64) (.int .i64)), (77, .pair (.int .i64) (.int .i64)), (78, .sl (.pair (.int .i64) (.int .i64))), (90, .pair (.sl (.int .u8)) (.int .i64)), (91, .pair (.sl (.int .u8)) (.int .i64)), (93, .sl .tree), (94, .pair .str (.pair (.int .i64) (.sl .tree))), (95, .tree), (99, .sl .str), (100, .int .u64), (109, .pair .str .str), (110, .pair .str .str), (112, .sl (.ent (.pair .str (.pair (.int .i64) (.int .i64))) (.int .i64))), (113, .pair (.pair (.int .i64) (.pair (.sl .bool) (.sl (.sl (.int .i64))))) (.sl (.ent (.pair .str (.pair (.int .i64) (.int .i64))) (.int .i64)))), (114, .pair (.pair (.int .i64) (.pair (.sl .bool) (.sl (.sl (.int .i64))))) (.sl (.ent (.pair .str (.pair (.int .i64) (.int .i64))) (.int .i64)))), (116, .pair .str (.pair (.int .i64) (.int .i64))), (117, .pair .str (.pair (.int .i64) (.int .i64))), (124, .int .u32), (127, .int .u64), (139, .sl (.ent (.pair .str (.pair (.int .i64) (.int .i64))) .bool)), (140, .pair (.pair .str (.sl (.pair .str .str))) (.pair .str (.sl (.ent (.pair .str (.pair (.int .i64) (.int .i64))) .bool)))), (141, .pair (.pair .str (.sl (.pair .str .str))) (.pair .str (.sl (.ent (.pair .str (.pair (.int .i64) (.int .i64))) .bool)))), (147, .pair (.int .u8) (.int .u8)), (148, .pair (.int .u8) (.int .u8)), (160, .int .u8), (161, .int .u8), (164, .int .i32), (165, .int .i32)]
def fns : List (Nat × FA) :=
    [
     (4, { res := [(.one (.pv .bool))], hand := [], cuts := [] }),
     (10, { res := [(.one (.pv (.pair (.int .i64) (.pair (.sl .bool) (.sl (.sl (.int .i64))))))), (.one (.pv .str))], hand := [], cuts := [] }),
     (13, { res := [(.one (.pv .bool))], hand := [], cuts := [] }),
     (14, { res := [(.one (.pv .bool))], hand := [], cuts := [(122, [(1, .one (.pv .str)), (2, .box false [(.pv (.int .i64)), (.pv (.sl .bool)), (.pv (.sl (.sl (.int .i64))))]), (5, .one (.pv (.int .i64))), (18, .one (.pv (.int .i64))), (19, .one (.pv (.int .i64)))])] }),
     (16, { res := [(.one (.pv .bool))], hand := [], cuts := [] }),
     (17, { res := [(.one (.pv .bool))], hand := [], cuts := [] }),
     (18, { res := [(.one (.pv .str))], hand := [], cuts := [] }),
     (19, { res := [(.one (.pv (.pair (.int .i64) (.pair (.sl .bool) (.sl (.sl (.int .i64))))))), (.one (.pv .bool))], hand := [], cuts := [(122, [(0, .one (.pv .str)), (2, .box false [(.pv (.int .i64)), (.pv (.sl .bool)), (.pv (.sl (.sl (.int .i64))))]), (4, .box false [(.pv (.int .i64)), (.own .bool 0), (.own (.sl (.int .i64)) 0)]), (23, .one (.pv (.int .i64))), (24, .one (.pv (.int .i64)))]), (31335, [(0, .one (.pv .str)), (2, .box false [(.pv (.int .i64)), (.pv (.sl .bool)), (.pv (.sl (.sl (.int .i64))))]), (4, .box false [(.pv (.int .i64)), (.own .bool 0), (.own (.sl (.int .i64)) 0)]), (6, .one (.own (.int .i64) 0)), (23, .one (.pv (.int .i64))), (24, .one (.pv (.int .i64)))])] }),
     (20, { res := [(.one (.pv (.pair (.int .i64) (.pair (.sl .bool) (.sl (.sl (.int .i64))))))), (.one (.pv .bool))], hand := [], cuts := [(122, [(0, .one (.pv .str)), (2, .box false [(.pv (.int .i64)), (.pv (.sl .bool)), (.pv (.sl (.sl (.int .i64))))]), (4, .box false [(.pv (.int .i64)), (.own .bool 0), (.own (.sl (.int .i64)) 0)]), (5, .one (.pv (.int .i64)))]), (7827, [(0, .one (.pv .str)), (2, .box false [(.pv (.int .i64)), (.pv (.sl .bool)), (.pv (.sl (.sl (.int .i64))))]), (4, .box false [(.pv (.int .i64)), (.own .bool 0), (.own (.sl (.int .i64)) 0)]), (5, .one (.pv (.int .i64))), (6, .one (.own (.int .i64) 0))])] }),
     (32, { res := [(.one (.pv (.pair (.int .i64) (.pair (.sl .bool) (.sl (.sl (.int .i64)))))))], hand := [(0, .ptr [(.pv (.sl (.int .u8))), (.pv (.int .i64))])], cuts := [] }),
     (33, { res := [(.ptr [(.pv (.sl (.int .u8))), (.pv (.int .i64))])], hand := [], cuts := [] }),
     (34, { res := [(.one (.pv .str))], hand := [(0, .ptr [(.pv (.sl (.int .u8))), (.pv (.int .i64))])], cuts := [(7, [(0, .box true [(.pv (.sl (.int .u8))), (.pv (.int .i64))])])] }),
     (37, { res := [(.one (.own (.int .i64) 0))], hand := [], cuts := [(7, [(0, .one (.pv (.sl (.int .i64)))), (1, .one (.pv (.int .i64)))]), (31, [(0, .one (.pv (.sl (.int .i64)))), (6, .one (.pv (.int .u64)))]), (508, [(7, .one (.pv (.sl (.int .i64)))), (8, .one (.pv (.int .i64)))])] }),
     (39, { res := [(.agg [.pv (.int .i64), .own .bool 0, .own (.sl (.int .i64)) 1])], hand := [], cuts := [(58, [(1, .box false [(.pv (.int .i64)), (.pv (.sl .bool)), (.pv (.sl (.sl (.int .i64))))]), (2, .box false [(.pv (.int .i64)), (.own .bool 0), (.own (.sl (.int .i64)) 1)]), (3, .box false [(.pv (.int .i64)), (.own .bool 0), (.own (.sl (.int .i64)) 1)]), (4, .one (.pv (.int .i64)))])] }),
     (42, { res := [(.one (.pv .bool))], hand := [], cuts := [(58, [(0, .one (.pv (.sl .bool))), (1, .one (.pv (.sl .bool))), (12, .one (.pv (.int .i64))), (13, .one (.pv (.int .i64)))])] }),
     (43, { res := [(.one (.pv .bool))], hand := [], cuts := [(58, [(1, .one (.pv (.sl (.sl (.int .i64))))), (2, .one .any), (15, .one (.pv (.sl (.sl (.int .i64))))), (16, .one (.pv (.int .i64))), (17, .one (.pv (.int .i64)))])] }),
     (44, { res := [(.one (.pv .bool))], hand := [], cuts := [(58, [(0, .one (.pv (.sl (.int .i64)))), (1, .one (.pv (.sl (.int .i64)))), (12, .one (.pv (.int .i64))), (13, .one (.pv (.int .i64)))])] }),
     (45, { res := [(.one (.pv (.int .i64)))], hand := [], cuts := [] }),
     (46, { res := [(.one (.pv .bool))], hand := [], cuts := [(26, [(0, .one (.pv .str)), (3, .one (.pv (.int .i64)))])] }),
     (48, { res := [(.one (.pv .bool))], hand := [], cuts := [] }),
     (49, { res := [(.one (.pv .bool))], hand := [], cuts := [] }),
     (50, { res := [(.one (.pv .bool))], hand := [], cuts := [] }),
     (51, { res := [(.one (.pv .bool))], hand := [], cuts := [] }),
     (52, { res := [(.one (.pv .bool))], hand := [], cuts := [] }),
     (53, { res := [(.one (.pv .bool))], hand := [], cuts := [] }),
     (69, { res := [(.one (.pv (.int .i64)))], hand := [(0, .ptr [(.pv (.sl (.int .u8))), (.pv (.int .i64))])], cuts := [] }),
     (70, { res := [(.one (.pv .str))], hand := [(0, .ptr [(.pv (.sl (.int .u8))), (.pv (.int .i64))])], cuts := [(58, [(0, .box true [(.pv (.sl (.int .u8))), (.pv (.int .i64))]), (1, .one (.pv (.int .i64))), (5, .one (.pv .str)), (6, .one (.pv (.int .i64)))])] }),
     (71, { res := [(.one (.pv (.pair (.int .i64) (.pair (.sl .bool) (.sl (.sl (.int .i64)))))))], hand := [(0, .ptr [(.pv (.sl (.int .u8))), (.pv (.int .i64))])], cuts := [] }),
     (72, { res := [(.one (.pv (.pair (.int .i64) (.pair (.sl .bool) (.sl (.sl (.int .i64)))))))], hand := [(0, .ptr [(.pv (.sl (.int .u8))), (.pv (.int .i64))])], cuts := [(122, [(0, .box true [(.pv (.sl (.int .u8))), (.pv (.int .i64))]), (2, .box false [(.pv (.int .i64)), (.pv (.sl .bool)), (.pv (.sl (.sl (.int .i64))))]), (3, .one (.pv (.int .i64))), (4, .box false [(.pv (.int .i64)), (.own .bool 0), (.own (.sl (.int .i64)) 0)]), (5, .one (.pv (.int .i64)))]), (62618, [(0, .box true [(.pv (.sl (.int .u8))), (.pv (.int .i64))]), (2, .box false [(.pv (.int .i64)), (.pv (.sl .bool)), (.pv (.sl (.sl (.int .i64))))]), (3, .one (.pv (.int .i64))), (4, .box false [(.pv (.int .i64)), (.own .bool 0), (.own (.sl (.int .i64)) 0)]), (5, .one (.pv (.int .i64))), (6, .one (.own (.int .i64) 0)), (7, .one (.pv (.int .i64)))])] }),
     (73, { res := [(.one (.pv .bool))], hand := [], cuts := [(58, [(1, .box false [(.pv .str), (.pv (.sl (.pair .str .str)))]), (3, .one (.pv (.int .i64)))])] }),
     (74, { res := [(.one (.pv .str))], hand := [], cuts := [(122, [(1, .box false [(.pv .str), (.pv (.int .i64)), (.pv (.sl .tree))]), (3, .one (.pv .str)), (4, .one (.pv (.int .i64)))])] }),
     (75, { res := [(.agg [.pv .str, .pv (.int .i64), .own .tree 0])], hand := [(0, .ptr [(.pv (.sl (.int .u8))), (.pv (.int .i64))])], cuts := [(127, [(0, .box true [(.pv (.sl (.int .u8))), (.pv (.int .i64))]), (2, .one (.pv .str)), (3, .one (.pv (.int .i64))), (5, .box false [(.pv .str), (.pv (.sl (.pair .str .str)))]), (8, .box false [(.pv .str), (.pv (.int .i64)), (.pv (.sl .tree))]), (10, .one (.pv (.int .i64)))]), (2026, [(0, .box true [(.pv (.sl (.int .u8))), (.pv (.int .i64))]), (2, .one (.pv .str)), (3, .one (.pv (.int .i64))), (5, .box false [(.pv .str), (.pv (.sl (.pair .str .str)))]), (8, .box false [(.pv .str), (.pv (.int .i64)), (.pv (.sl .tree))]), (9, .one (.pv (.sl (.int .i64)))), (10, .one (.pv (.int .i64))), (11, .one (.pv (.int .i64)))]), (2042, [(0, .box true [(.pv (.sl (.int .u8))), (.pv (.int .i64))]), (3, .one (.pv (.int .i64))), (5, .box false [(.pv .str), (.pv (.sl (.pair .str .str)))]), (8, .box false [(.pv .str), (.pv (.int .i64)), (.pv (.sl .tree))]), (10, .one (.pv (.int .i64))), (12, .box false [(.pv .str), (.pv (.int .i64)), (.own .tree 0)]), (13, .one (.pv (.int .i64)))])] }),
     (76, { res := [(.one (.pv (.int .i64)))], hand := [(0, .ptr [(.pv (.sl (.int .u8))), (.pv (.int .i64))])], cuts := [] }),
     (77, { res := [(.one (.pv .str))], hand := [(0, .ptr [(.pv (.sl (.int .u8))), (.pv (.int .i64))])], cuts := [] }),
     (79, { res := [(.one (.pv .bool))], hand := [], cuts := [] }),
     (80, { res := [(.one (.pv (.int .i64)))], hand := [], cuts := [(26, [(0, .one (.pv (.sl (.sl (.int .i64))))), (1, .one .any), (7, .one (.pv (.int .i64))), (8, .one (.pv (.int .i64)))])] }),
     (81, { res := [(.one (.pv (.int .i64)))], hand := [], cuts := [(26, [(0, .one (.pv (.sl (.int .i64)))), (1, .one .any), (7, .one (.pv (.int .i64))), (8, .one (.pv (.int .i64)))])] }),
     (82, { res := [(.one (.pv .str))], hand := [], cuts := [] }),
     (95, { res := [(.one (.pv .bool))], hand := [], cuts := [] }),
     (96, { res := [(.one (.pv .bool))], hand := [], cuts := [(26, [(0, .one (.pv .str)), (1, .one (.pv (.int .i64))), (5, .one (.pv (.int .i64)))])] }),
     (97, { res := [(.one (.pv (.int .i64)))], hand := [], cuts := [(26, [(0, .one (.pv (.sl (.pair .str .str)))), (3, .box false [(.pv .str), (.pv .str)]), (5, .one (.pv (.int .i64)))])] }),
     (98, { res := [(.one (.pv .bool))], hand := [], cuts := [] }),
     (99, { res := [(.one (.pv (.sl (.int .i64))))], hand := [], cuts := [(58, [(1, .one (.pv .str)), (2, .box false [(.pv .str), (.pv (.sl (.pair .str .str)))]), (5, .one (.own (.int .i64) 0)), (6, .one (.pv (.int .i64)))])] }),
     (114, { res := [(.one (.pv .bool))], hand := [], cuts := [] })]
def eqs : List (Nat × List Ty) := [(4, [.bool]), (73, [(.int .i64), (.int .i64)]), (77, [(.int .i64), (.int .i64)]), (110, [.str, .str]), (117, [.str, (.int .i64), (.int .i64)])]
def A : Ann := Ann.mk tys eqs fns
def X : Ext A := ⟨fun f => Nat.beq f 37 || Nat.beq f 82, fun f args => match f, args with
  | 37, [.d (.sl (.int .i64)) l, .d (.int .i64) c] => ifE (List.length l = 1 ∧ 1 ≤ c ∧ c ≤ 1000000) (some (List.replicate c.toNat (List.getD l 0 0))) none
  | 82, [.d .str s, .d .str c] => ifE (s.length ≤ 9223372036854775807 ∧ c.length < 4294967281 ∧ (c.all fun b => decide (b.toNat < 128)) = true) (some (trimE s c)) none
  | _, _ => none⟩
end Go.Proofs.YtmonmbjjobcnaaaDoor.TA
