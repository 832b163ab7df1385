import Derived.Test.YtkofhmmfhmipgaaDoorK1
namespace Go.Proofs.YtkofhmmfhmipgaaDoor.TA
open Go Go.Proofs.YtkofhmmfhmipgaaDoor.Eng
set_option maxRecDepth 100000
set_option linter.unusedVariables false
def tys : List (Nat × Ty) :=
  [(2, .int .i64), (3, .int .i64), (4, .bool), (5, .int .u8), (6, .int .u8), (7, .pair (.int .i64) (.pair (.int .i64) (.pair .bool (.int .u8)))), (8, .pair (.int .i64) (.pair (.int .i64) (.pair .bool (.int .u8)))), (9, .str), (10, .str), (11, .str), (12, .int .u64), (13, .pair .str (.int .u64)), (14, .pair .str (.int .u64)), (21, .int .i32), (22, .sl (.int .u8)), (23, .sl (.pair .str .str)), (24, .pair .str (.sl (.pair .str .str))), (25, .pair .str (.sl (.pair .str .str))), (26, .sl .tree), (27, .pair .str (.pair (.int .i64) (.sl .tree))), (28, .tree), (45, .sl (.int .i64)), (48, .pair .str .str), (49, .pair .str .str), (62, .sl (.pair (.int .i64) (.pair (.int .i64) .str))), (94, .sl .str), (108, .pair (.int .i64) (.pair (.int .i64) .str)), (109, .pair (.int .i64) (.pair (.int .i64) .str)), (120, .pair (.sl (.int .u8)) (.int .i64)), (121, .pair (.sl (.int .u8)) (.int .i64)), (141, .sl (.ent (.pair .str (.pair (.int .i64) (.int .i64))) .bool)), (142, .pair (.pair .str (.sl (.pair .str .str))) (.pair .str (.sl (.ent (.pair .str (.pair (.int .i64) (.int .i64))) .bool)))), (143, .pair (.pair .str (.sl (.pair .str .str))) (.pair .str (.sl (.ent (.pair .str (.pair (.int .i64) (.int .i64))) .bool)))), (144, .pair .str (.pair (.int .i64) (.int .i64))), (145, .pair .str (.pair (.int .i64) (.int .i64))), (155, .pair .str (.sl .str)), (156, .pair .str (.sl .str)), (167, .int .u64), (175, .int .u32), (180, .int .u64), (189, .pair (.int .u8) (.int .u8)), (190, .pair (.int .u8) (.int .u8)), (206, .int .u8), (207, .int .u8), (209, .int .i32), (210, .int .i32)]
def fns : List (Nat × FA) :=
    [
     (4, { res := [(.one (.pv .bool))], hand := [], cuts := [(4090, [(3, .box false [(.pv .str), (.pv (.int .i64)), (.pv (.sl .tree))]), (4, .box false [(.pv .str), (.pv (.sl (.pair .str .str)))]), (5, .box false [(.pv .str), (.pv (.int .i64)), (.pv (.sl .tree))]), (6, .box false [(.pv .str), (.pv (.int .i64)), (.pv (.sl .tree))]), (7, .one (.pv .str)), (8, .one (.pv .str)), (9, .one (.pv (.int .i64)))])] }),
     (13, { res := [(.one (.pv (.pair .str (.sl (.pair .str .str))))), (.one (.pv .tree))], hand := [], cuts := [] }),
     (14, { res := [(.one (.pv .bool))], hand := [], cuts := [] }),
     (16, { res := [(.one (.pv (.int .i64)))], hand := [], cuts := [(58, [(3, .one (.pv (.int .i64))), (7, .one (.pv (.sl .tree))), (8, .one (.pv (.int .i64))), (9, .one (.pv (.int .i64)))])] }),
     (17, { res := [(.one (.pv .tree))], hand := [], cuts := [] }),
     (18, { res := [(.one (.pv .tree))], hand := [], cuts := [(58, [(1, .box false [(.pv .str), (.pv (.int .i64)), (.pv (.sl .tree))]), (2, .box false [(.pv .str), (.pv (.int .i64)), (.pv (.sl .tree))]), (3, .box false [(.pv .str), (.pv (.int .i64)), (.own .tree 0)]), (4, .one (.pv (.int .i64)))])] }),
     (19, { res := [(.one (.pv .bool))], hand := [], cuts := [] }),
     (20, { res := [(.one (.pv .tree))], hand := [], cuts := [(58, [(1, .box false [(.pv .str), (.pv (.int .i64)), (.pv (.sl .tree))]), (2, .box false [(.pv .str), (.pv (.int .i64)), (.pv (.sl .tree))]), (3, .box false [(.pv .str), (.pv (.int .i64)), (.own .tree 0)]), (4, .one (.pv (.int .i64)))])] }),
     (21, { res := [(.one (.pv .str))], hand := [], cuts := [] }),
     (22, { res := [(.one (.pv (.pair .str (.sl (.pair .str .str)))))], hand := [], cuts := [] }),
     (34, { res := [(.one (.pv .bool))], hand := [], cuts := [] }),
     (41, { res := [(.one (.pv .bool))], hand := [], cuts := [(58, [(1, .box false [(.pv .str), (.pv (.sl (.pair .str .str)))]), (16, .one (.pv (.sl (.pair .str .str)))), (17, .one (.pv (.int .i64))), (18, .one (.pv (.int .i64)))])] }),
     (53, { res := [(.one (.pv (.pair .str (.sl (.pair .str .str))))), (.one (.pv .tree))], hand := [(0, .ptr [(.pv (.sl (.int .u8))), (.pv (.int .i64))])], cuts := [] }),
     (54, { res := [(.ptr [(.pv (.sl (.int .u8))), (.pv (.int .i64))])], hand := [], cuts := [] }),
     (55, { res := [(.one (.pv .bool))], hand := [(3, .ptr [(.pv (.int .i64))])], cuts := [(1018, [(2, .one (.pv (.int .i64))), (3, .box true [(.pv (.int .i64))]), (4, .box false [(.pv .str), (.pv (.sl (.pair .str .str)))]), (9, .box false [(.pv .str), (.pv .str)]), (69, .one (.pv (.sl .tree))), (70, .one (.pv (.int .i64))), (71, .one (.pv (.int .i64)))])] }),
     (58, { res := [(.one (.pv .tree))], hand := [], cuts := [] }),
     (59, { res := [(.one (.pv .bool))], hand := [], cuts := [(58, [(1, .one (.pv (.sl .tree))), (2, .one .any), (15, .one (.pv (.sl .tree))), (16, .one (.pv (.int .i64))), (17, .one (.pv (.int .i64)))])] }),
     (62, { res := [(.one (.pv (.pair .str (.sl (.pair .str .str)))))], hand := [], cuts := [(58, [(2, .one .any), (6, .box false [(.pv .str), (.pv (.sl (.pair .str .str)))]), (7, .box false [(.pv .str), (.own (.pair .str .str) 0)]), (13, .one (.pv (.sl (.pair .str .str)))), (14, .one (.pv (.int .i64))), (15, .one (.pv (.int .i64)))])] }),
     (63, { res := [(.one (.pv (.pair .str .str)))], hand := [], cuts := [] }),
     (64, { res := [(.one (.pv .str))], hand := [], cuts := [] }),
     (71, { res := [(.one (.pv (.int .i64)))], hand := [], cuts := [(26, [(0, .one (.pv (.sl (.pair .str .str)))), (3, .box false [(.pv .str), (.pv .str)]), (5, .one (.pv (.int .i64)))])] }),
     (77, { res := [(.one (.pv .bool))], hand := [], cuts := [] }),
     (78, { res := [(.one (.pv (.int .i64)))], hand := [(0, .ptr [(.pv (.sl (.int .u8))), (.pv (.int .i64))])], cuts := [] }),
     (79, { res := [(.one (.pv (.int .i64)))], hand := [(0, .ptr [(.pv (.sl (.int .u8))), (.pv (.int .i64))])], cuts := [] }),
     (84, { res := [(.one (.pv .bool))], hand := [], cuts := [] }),
     (85, { res := [(.one (.pv .bool))], hand := [], cuts := [] }),
     (86, { res := [(.one (.pv .bool))], hand := [], cuts := [] }),
     (88, { res := [(.one (.pv (.pair .str (.sl (.pair .str .str)))))], hand := [(0, .ptr [(.pv (.sl (.int .u8))), (.pv (.int .i64))])], cuts := [(122, [(0, .box true [(.pv (.sl (.int .u8))), (.pv (.int .i64))]), (2, .box false [(.pv .str), (.pv (.sl (.pair .str .str)))]), (3, .box false [(.pv .str), (.own (.pair .str .str) 0)]), (4, .one (.pv (.int .i64)))])] }),
     (91, { res := [(.one (.pv .str))], hand := [(0, .ptr [(.pv (.sl (.int .u8))), (.pv (.int .i64))])], cuts := [] }),
     (103, { res := [(.agg [.pv .str, .pv (.int .i64), .own .tree 0])], hand := [(0, .ptr [(.pv (.sl (.int .u8))), (.pv (.int .i64))])], cuts := [(127, [(0, .box true [(.pv (.sl (.int .u8))), (.pv (.int .i64))]), (2, .one (.pv .str)), (3, .one (.pv (.int .i64))), (5, .box false [(.pv .str), (.pv (.sl (.pair .str .str)))]), (8, .box false [(.pv .str), (.pv (.int .i64)), (.pv (.sl .tree))]), (10, .one (.pv (.int .i64)))]), (2026, [(0, .box true [(.pv (.sl (.int .u8))), (.pv (.int .i64))]), (2, .one (.pv .str)), (3, .one (.pv (.int .i64))), (5, .box false [(.pv .str), (.pv (.sl (.pair .str .str)))]), (8, .box false [(.pv .str), (.pv (.int .i64)), (.pv (.sl .tree))]), (9, .one (.pv (.sl (.int .i64)))), (10, .one (.pv (.int .i64))), (11, .one (.pv (.int .i64)))]), (2042, [(0, .box true [(.pv (.sl (.int .u8))), (.pv (.int .i64))]), (3, .one (.pv (.int .i64))), (5, .box false [(.pv .str), (.pv (.sl (.pair .str .str)))]), (8, .box false [(.pv .str), (.pv (.int .i64)), (.pv (.sl .tree))]), (10, .one (.pv (.int .i64))), (12, .box false [(.pv .str), (.pv (.int .i64)), (.own .tree 0)]), (13, .one (.pv (.int .i64)))])] }),
     (104, { res := [(.one (.pv (.pair .str (.sl (.pair .str .str)))))], hand := [(0, .ptr [(.pv (.sl (.int .u8))), (.pv (.int .i64))])], cuts := [(259582, [(0, .box true [(.pv (.sl (.int .u8))), (.pv (.int .i64))]), (4, .box false [(.pv .str), (.pv (.sl (.pair .str .str)))]), (5, .box false [(.pv .str), (.own (.pair .str .str) 0)])])] }),
     (105, { res := [(.one (.pv .bool))], hand := [], cuts := [] }),
     (109, { res := [(.one (.pv .bool))], hand := [], cuts := [] }),
     (117, { res := [(.one (.pv .str))], hand := [], cuts := [] }),
     (118, { res := [(.one (.pv (.int .i64)))], hand := [], cuts := [(26, [(0, .one (.pv (.sl (.pair .str .str)))), (3, .box false [(.pv .str), (.pv .str)]), (7, .one (.pv (.int .i64))), (8, .one (.pv (.int .i64)))])] }),
     (119, { res := [(.one (.pv (.pair .str (.sl (.pair .str .str)))))], hand := [], cuts := [] }),
     (120, { res := [(.one (.pv .str))], hand := [(0, .ptr [(.pv (.sl (.int .u8))), (.pv (.int .i64))])], cuts := [(58, [(0, .box true [(.pv (.sl (.int .u8))), (.pv (.int .i64))]), (1, .one (.pv (.int .i64))), (5, .one (.pv .str)), (6, .one (.pv (.int .i64)))])] }),
     (130, { res := [(.one (.pv (.sl (.int .i64))))], hand := [], cuts := [(58, [(1, .one (.pv .str)), (2, .box false [(.pv .str), (.pv (.sl (.pair .str .str)))]), (5, .one (.own (.int .i64) 0)), (6, .one (.pv (.int .i64)))])] })]
def eqs : List (Nat × List Ty) := [(4, [.bool]), (49, [.str, .str]), (109, [(.int .i64), (.int .i64), .str]), (145, [.str, (.int .i64), (.int .i64)])]
def A : Ann := Ann.mk tys eqs fns
def X : Ext A := ⟨fun f => Nat.beq f 21 || Nat.beq f 64 || Nat.beq f 117, fun f args => match f, args with
  | 21, [.agg [.d .str s, .d (.int .i64) r, .d (.sl .tree) k]] => ifE (saneE (Tr.mk s r k) = true ∧ (yieldE (Tr.mk s r k)).length ≤ 140737488355328) (some (yieldE (Tr.mk s r k))) none
  | 21, [.agg [.d .str s, .d (.int .i64) r, .k (.slice none 0 0)]] => ifE (saneE (Tr.mk s r []) = true ∧ (yieldE (Tr.mk s r [])).length ≤ 140737488355328) (some (yieldE (Tr.mk s r []))) none
  | 64, [.d .str s] => ifE (s.length ≤ 140737488355328) (some s.reverse) none
  | 117, [.d .str s, .d .str c] => ifE (s.length ≤ 9223372036854775807 ∧ c.length < 4294967281 ∧ (c.all fun b => decide (b.toNat < 128)) = true) (some (trimE s c)) none
  | _, _ => none⟩
end Go.Proofs.YtkofhmmfhmipgaaDoor.TA
