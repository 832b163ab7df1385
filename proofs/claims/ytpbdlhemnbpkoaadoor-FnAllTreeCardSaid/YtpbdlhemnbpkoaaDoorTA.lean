import Derived.Test.YtpbdlhemnbpkoaaDoorK1
namespace Go.Proofs.YtpbdlhemnbpkoaaDoor.TA
open Go Go.Proofs.YtpbdlhemnbpkoaaDoor.Eng
set_option maxRecDepth 100000
set_option linter.unusedVariables false
def tys : List (Nat × Ty) :=
  [(2, .int .i64), (3, .int .i64), (4, .bool), (5, .int .u8), (6, .int .u8), (7, .pair (.int .i64) (.pair (.int .i64) (.pair .bool (.int .u8)))), (8, .pair (.int .i64) (.pair (.int .i64) (.pair .bool (.int .u8)))), (9, .str), (10, .str), (11, .str), (12, .int .u64), (13, .pair .str (.int .u64)), (14, .pair .str (.int .u64)), (21, .int .i32), (22, .sl (.int .u8)), (23, .sl (.pair .str .str)), (24, .pair .str (.sl (.pair .str .str))), (25, .pair .str (.sl (.pair .str .str))), (32, .sl (.pair .str .str)), (33, .pair .str (.sl (.pair .str .str))), (34, .pair .str (.sl (.pair .str .str))), (39, .pair .str .str), (40, .pair .str .str), (45, .sl .tree), (46, .pair .str (.pair (.int .i64) (.sl .tree))), (47, .tree), (61, .sl (.int .i64)), (79, .sl (.ent (.pair .str (.pair (.int .i64) (.int .i64))) (.int .i64))), (80, .pair (.pair .str (.sl (.pair .str .str))) (.pair .str (.sl (.ent (.pair .str (.pair (.int .i64) (.int .i64))) (.int .i64))))), (81, .pair (.pair .str (.sl (.pair .str .str))) (.pair .str (.sl (.ent (.pair .str (.pair (.int .i64) (.int .i64))) (.int .i64))))), (83, .pair .str (.pair (.int .i64) (.int .i64))), (84, .pair .str (.pair (.int .i64) (.int .i64))), (87, .sl (.sl (.int .i64))), (88, .sl (.sl (.sl (.int .i64)))), (89, .sl (.sl (.sl (.int .i64)))), (94, .pair .str .str), (101, .sl .bool), (102, .sl (.sl .bool)), (103, .sl (.sl (.sl .bool))), (109, .sl .str), (110, .pair (.sl (.int .u8)) (.int .i64)), (111, .pair (.sl (.int .u8)) (.int .i64)), (130, .sl (.ent (.pair .str (.pair (.int .i64) (.int .i64))) .bool)), (131, .pair (.pair .str (.sl (.pair .str .str))) (.pair .str (.sl (.ent (.pair .str (.pair (.int .i64) (.int .i64))) .bool)))), (132, .pair (.pair .str (.sl (.pair .str .str))) (.pair .str (.sl (.ent (.pair .str (.pair (.int .i64) (.int .i64))) .bool)))), (135, .int .u64), (146, .int .u32), (149, .int .u64), (155, .pair (.int .u8) (.int .u8)), (156, .pair (.int .u8) (.int .u8)), (166, .int .u8), (167, .int .u8), (169, .int .i32), (170, .int .i32)]
def fns : List (Nat × FA) :=
    [
     (8, { res := [(.one (.pv .bool))], hand := [], cuts := [] }),
     (12, { res := [(.one (.pv .bool))], hand := [], cuts := [(58, [(1, .box false [(.pv .str), (.pv (.sl (.pair .str .str)))]), (3, .one (.pv (.int .i64)))])] }),
     (17, { res := [(.one (.pv .bool))], hand := [], cuts := [(58, [(1, .box false [(.pv .str), (.pv (.sl (.pair .str .str)))]), (16, .one (.pv (.sl (.pair .str .str)))), (17, .one (.pv (.int .i64))), (18, .one (.pv (.int .i64)))])] }),
     (20, { res := [(.one (.pv .bool))], hand := [], cuts := [] }),
     (22, { res := [(.one (.pv .bool))], hand := [], cuts := [] }),
     (23, { res := [(.one (.pv (.pair .str (.sl (.pair .str .str))))), (.one (.pv .tree))], hand := [], cuts := [] }),
     (24, { res := [(.one (.pv .str))], hand := [], cuts := [] }),
     (25, { res := [(.one (.pv .bool))], hand := [], cuts := [] }),
     (26, { res := [(.one (.pv .bool))], hand := [], cuts := [] }),
     (27, { res := [(.one (.pv .bool))], hand := [], cuts := [] }),
     (29, { res := [(.one (.pv .bool))], hand := [], cuts := [] }),
     (33, { res := [(.one (.pv .bool))], hand := [], cuts := [] }),
     (34, { res := [(.one (.pv .bool))], hand := [], cuts := [(26, [(0, .one (.pv .str)), (1, .one (.pv (.int .i64))), (5, .one (.pv (.int .i64)))])] }),
     (35, { res := [(.one (.pv (.int .i64)))], hand := [], cuts := [(26, [(0, .one (.pv (.sl (.pair .str .str)))), (3, .box false [(.pv .str), (.pv .str)]), (5, .one (.pv (.int .i64)))])] }),
     (42, { res := [(.one (.pv .bool))], hand := [], cuts := [] }),
     (43, { res := [(.one (.pv .bool))], hand := [], cuts := [] }),
     (44, { res := [(.one (.pv .bool))], hand := [], cuts := [] }),
     (45, { res := [(.one (.pv .bool))], hand := [], cuts := [] }),
     (48, { res := [(.one (.pv .bool))], hand := [], cuts := [] }),
     (49, { res := [(.one (.pv (.pair .str (.sl (.pair .str .str))))), (.one (.pv .tree))], hand := [(0, .ptr [(.pv (.sl (.int .u8))), (.pv (.int .i64))])], cuts := [] }),
     (50, { res := [(.ptr [(.pv (.sl (.int .u8))), (.pv (.int .i64))])], hand := [], cuts := [] }),
     (53, { res := [(.one (.pv .bool))], hand := [(3, .ptr [(.pv (.int .i64))])], cuts := [(1018, [(2, .one (.pv (.int .i64))), (3, .box true [(.pv (.int .i64))]), (4, .box false [(.pv .str), (.pv (.sl (.pair .str .str)))]), (9, .box false [(.pv .str), (.pv .str)]), (69, .one (.pv (.sl .tree))), (70, .one (.pv (.int .i64))), (71, .one (.pv (.int .i64)))])] }),
     (54, { res := [(.one (.pv .bool))], hand := [], cuts := [(250, [(2, .one (.pv (.int .i64))), (3, .box false [(.pv .str), (.pv (.sl (.pair .str .str)))]), (4, .box false [(.pv .str), (.pv (.int .i64)), (.pv (.sl .tree))]), (7, .one (.pv (.int .i64)))])] }),
     (55, { res := [(.one (.pv (.int .i64)))], hand := [], cuts := [(58, [(1, .one (.pv (.int .i64))), (2, .box false [(.pv .str), (.pv (.int .i64)), (.pv (.sl .tree))]), (5, .one (.pv (.int .i64))), (6, .one (.pv (.int .i64)))])] }),
     (56, { res := [(.one (.pv .bool))], hand := [], cuts := [] }),
     (57, { res := [(.one (.pv (.pair .str (.sl (.pair .str .str)))))], hand := [(0, .ptr [(.pv (.sl (.int .u8))), (.pv (.int .i64))])], cuts := [(259582, [(0, .box true [(.pv (.sl (.int .u8))), (.pv (.int .i64))]), (4, .box false [(.pv .str), (.pv (.sl (.pair .str .str)))]), (5, .box false [(.pv .str), (.own (.pair .str .str) 0)])])] }),
     (58, { res := [(.one (.pv (.pair .str (.sl (.pair .str .str)))))], hand := [(0, .ptr [(.pv (.sl (.int .u8))), (.pv (.int .i64))])], cuts := [(122, [(0, .box true [(.pv (.sl (.int .u8))), (.pv (.int .i64))]), (2, .box false [(.pv .str), (.pv (.sl (.pair .str .str)))]), (3, .box false [(.pv .str), (.own (.pair .str .str) 0)]), (4, .one (.pv (.int .i64)))])] }),
     (65, { res := [(.one (.pv .bool))], hand := [], cuts := [] }),
     (66, { res := [(.one (.pv .bool))], hand := [], cuts := [] }),
     (71, { res := [(.one (.pv .str))], hand := [], cuts := [] }),
     (72, { res := [(.one (.pv (.int .i64)))], hand := [], cuts := [(26, [(0, .one (.pv (.sl (.pair .str .str)))), (3, .box false [(.pv .str), (.pv .str)]), (7, .one (.pv (.int .i64))), (8, .one (.pv (.int .i64)))])] }),
     (73, { res := [(.ptr [(.pv .str), (.pv (.sl (.pair .str .str))), (.pv .str), (.own (.ent (.pair .str (.pair (.int .i64) (.int .i64))) .bool) 0)])], hand := [], cuts := [(58, [(1, .one (.pv .str)), (2, .box false [(.pv .str), (.pv (.sl (.pair .str .str)))]), (5, .box false [(.pv .str), (.pv (.sl (.pair .str .str))), (.pv .str), (.own (.ent (.pair .str (.pair (.int .i64) (.int .i64))) .bool) 0)]), (6, .one (.pv .bool))]), (3734, [(1, .one (.pv .str)), (2, .box false [(.pv .str), (.pv (.sl (.pair .str .str)))]), (5, .box false [(.pv .str), (.pv (.sl (.pair .str .str))), (.pv .str), (.own (.ent (.pair .str (.pair (.int .i64) (.int .i64))) .bool) 0)]), (6, .one (.pv .bool)), (7, .one (.pv (.int .i64)))]), (238994, [(1, .one (.pv .str)), (2, .box false [(.pv .str), (.pv (.sl (.pair .str .str)))]), (5, .box false [(.pv .str), (.pv (.sl (.pair .str .str))), (.pv .str), (.own (.ent (.pair .str (.pair (.int .i64) (.int .i64))) .bool) 0)]), (6, .one (.pv .bool)), (7, .one (.pv (.int .i64))), (8, .one (.pv (.int .i64)))]), (15295634, [(1, .one (.pv .str)), (2, .box false [(.pv .str), (.pv (.sl (.pair .str .str)))]), (5, .box false [(.pv .str), (.pv (.sl (.pair .str .str))), (.pv .str), (.own (.ent (.pair .str (.pair (.int .i64) (.int .i64))) .bool) 0)]), (6, .one (.pv .bool)), (7, .one (.pv (.int .i64))), (8, .one (.pv (.int .i64))), (32, .one (.pv (.sl (.pair .str .str)))), (33, .one (.pv (.int .i64))), (34, .one (.pv (.int .i64)))])] }),
     (74, { res := [(.one (.pv .bool))], hand := [], cuts := [] }),
     (76, { res := [(.agg [.pv .str, .pv (.int .i64), .own .tree 0])], hand := [(0, .ptr [(.pv (.sl (.int .u8))), (.pv (.int .i64))])], cuts := [(127, [(0, .box true [(.pv (.sl (.int .u8))), (.pv (.int .i64))]), (2, .one (.pv .str)), (3, .one (.pv (.int .i64))), (5, .box false [(.pv .str), (.pv (.sl (.pair .str .str)))]), (8, .box false [(.pv .str), (.pv (.int .i64)), (.pv (.sl .tree))]), (10, .one (.pv (.int .i64)))]), (2026, [(0, .box true [(.pv (.sl (.int .u8))), (.pv (.int .i64))]), (2, .one (.pv .str)), (3, .one (.pv (.int .i64))), (5, .box false [(.pv .str), (.pv (.sl (.pair .str .str)))]), (8, .box false [(.pv .str), (.pv (.int .i64)), (.pv (.sl .tree))]), (9, .one (.pv (.sl (.int .i64)))), (10, .one (.pv (.int .i64))), (11, .one (.pv (.int .i64)))]), (2042, [(0, .box true [(.pv (.sl (.int .u8))), (.pv (.int .i64))]), (3, .one (.pv (.int .i64))), (5, .box false [(.pv .str), (.pv (.sl (.pair .str .str)))]), (8, .box false [(.pv .str), (.pv (.int .i64)), (.pv (.sl .tree))]), (10, .one (.pv (.int .i64))), (12, .box false [(.pv .str), (.pv (.int .i64)), (.own .tree 0)]), (13, .one (.pv (.int .i64)))])] }),
     (77, { res := [(.one (.pv (.int .i64)))], hand := [(0, .ptr [(.pv (.sl (.int .u8))), (.pv (.int .i64))])], cuts := [] }),
     (78, { res := [(.one (.pv (.int .i64)))], hand := [(0, .ptr [(.pv (.sl (.int .u8))), (.pv (.int .i64))])], cuts := [] }),
     (79, { res := [(.one (.pv .str))], hand := [(0, .ptr [(.pv (.sl (.int .u8))), (.pv (.int .i64))])], cuts := [] }),
     (81, { res := [(.one (.pv .bool))], hand := [], cuts := [] }),
     (82, { res := [(.one (.pv .str))], hand := [(0, .ptr [(.pv (.sl (.int .u8))), (.pv (.int .i64))])], cuts := [(58, [(0, .box true [(.pv (.sl (.int .u8))), (.pv (.int .i64))]), (1, .one (.pv (.int .i64))), (5, .one (.pv .str)), (6, .one (.pv (.int .i64)))])] }),
     (83, { res := [(.one (.pv (.pair .str (.sl (.pair .str .str)))))], hand := [], cuts := [] }),
     (97, { res := [(.one (.pv .bool))], hand := [], cuts := [(58, [(0, .one .any), (1, .one (.pv .str)), (2, .one (.pv (.int .i64))), (3, .one (.pv (.int .i64))), (9, .one (.pv (.int .i64)))])] }),
     (99, { res := [(.one (.pv (.sl (.int .i64))))], hand := [], cuts := [(58, [(1, .one (.pv .str)), (2, .box false [(.pv .str), (.pv (.sl (.pair .str .str)))]), (5, .one (.own (.int .i64) 0)), (6, .one (.pv (.int .i64)))])] })]
def eqs : List (Nat × List Ty) := [(4, [.bool]), (40, [.str, .str]), (84, [.str, (.int .i64), (.int .i64)]), (94, [.str, .str])]
def A : Ann := Ann.mk tys eqs fns
def X : Ext A := ⟨fun f => Nat.beq f 24 || Nat.beq f 38 || Nat.beq f 71, fun f args => match f, args with
  | 24, [.agg [.d .str s, .d (.int .i64) r, .d (.sl .tree) k]] => ifE (saneE (Tr.mk s r k) = true ∧ (yieldE (Tr.mk s r k)).length ≤ 140737488355328) (some (yieldE (Tr.mk s r k))) none
  | 24, [.agg [.d .str s, .d (.int .i64) r, .k (.slice none 0 0)]] => ifE (saneE (Tr.mk s r []) = true ∧ (yieldE (Tr.mk s r [])).length ≤ 140737488355328) (some (yieldE (Tr.mk s r []))) none
  | 71, [.d .str s, .d .str c] => ifE (s.length ≤ 9223372036854775807 ∧ c.length < 4294967281 ∧ (c.all fun b => decide (b.toNat < 128)) = true) (some (trimE s c)) none
  | _, _ => none⟩
end Go.Proofs.YtpbdlhemnbpkoaaDoor.TA
