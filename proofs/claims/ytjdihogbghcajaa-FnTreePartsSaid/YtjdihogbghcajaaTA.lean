import Derived.Test.YtjdihogbghcajaaK1
namespace Go.Proofs.Ytjdihogbghcajaa.TA
open Go Go.Proofs.Ytjdihogbghcajaa.Eng
set_option maxRecDepth 100000
set_option linter.unusedVariables false
def tys : List (Nat × Ty) :=
  [(2, .int .i64), (3, .int .i64), (4, .bool), (5, .int .u8), (6, .int .u8), (7, .pair (.int .i64) (.pair (.int .i64) (.pair .bool (.int .u8)))), (8, .pair (.int .i64) (.pair (.int .i64) (.pair .bool (.int .u8)))), (9, .str), (10, .str), (11, .str), (12, .int .u64), (13, .pair .str (.int .u64)), (14, .pair .str (.int .u64)), (21, .int .i32), (22, .sl (.int .u8)), (23, .sl (.pair .str .str)), (24, .pair .str (.sl (.pair .str .str))), (25, .pair .str (.sl (.pair .str .str))), (31, .pair .str .str), (32, .pair .str .str), (34, .sl .bool), (35, .sl (.sl (.int .i64))), (36, .pair (.int .i64) (.pair (.sl .bool) (.sl (.sl (.int .i64))))), (37, .pair (.int .i64) (.pair (.sl .bool) (.sl (.sl (.int .i64))))), (40, .pair (.int .i64) (.pair (.sl .bool) (.sl (.sl (.int .i64))))), (49, .sl .tree), (50, .pair .str (.pair (.int .i64) (.sl .tree))), (51, .tree), (61, .sl (.pair .str (.pair (.int .i64) (.int .i64)))), (63, .pair .str (.pair (.int .i64) (.int .i64))), (64, .pair .str (.pair (.int .i64) (.int .i64))), (79, .sl .str), (85, .sl (.int .i64)), (99, .sl (.pair (.int .i64) (.pair (.int .i64) .str))), (114, .sl (.pair .tree (.pair .str (.pair (.int .i64) (.int .i64))))), (116, .pair .tree (.pair .str (.pair (.int .i64) (.int .i64)))), (117, .pair .tree (.pair .str (.pair (.int .i64) (.int .i64)))), (122, .pair (.int .i64) (.int .i64)), (123, .pair (.int .i64) (.int .i64)), (124, .sl (.pair (.int .i64) (.int .i64))), (126, .pair (.int .i64) (.int .i64)), (127, .sl (.pair (.int .i64) (.int .i64))), (132, .pair (.sl (.int .u8)) (.int .i64)), (133, .pair (.sl (.int .u8)) (.int .i64)), (140, .pair (.int .i64) (.pair (.int .i64) .str)), (141, .pair (.int .i64) (.pair (.int .i64) .str)), (152, .int .u64), (157, .int .u32), (160, .int .u64), (171, .int .u8), (172, .int .u8), (174, .int .i32), (175, .int .i32)]
def fns : List (Nat × FA) :=
    [
     (10, { res := [(.one (.pv .bool))], hand := [], cuts := [(2042, [(3, .box false [(.pv .str), (.pv (.int .i64)), (.pv (.sl .tree))]), (4, .one (.pv (.sl (.pair .str (.pair (.int .i64) (.int .i64)))))), (5, .one (.pv (.sl (.pair .str (.pair (.int .i64) (.int .i64)))))), (6, .one (.pv .str)), (7, .one (.pv (.int .i64)))])] }),
     (18, { res := [(.one (.pv .bool))], hand := [], cuts := [] }),
     (19, { res := [(.one (.pv .bool))], hand := [], cuts := [] }),
     (21, { res := [(.one (.pv .bool))], hand := [], cuts := [] }),
     (38, { res := [(.one (.pv .str))], hand := [], cuts := [] }),
     (42, { res := [(.one (.pv .tree))], hand := [], cuts := [] }),
     (43, { res := [(.one (.pv (.sl (.pair .str (.pair (.int .i64) (.int .i64))))))], hand := [], cuts := [(58, [(3, .one (.own (.pair .str (.pair (.int .i64) (.int .i64))) 0)), (8, .one (.pv (.sl (.pair .tree (.pair .str (.pair (.int .i64) (.int .i64))))))), (9, .one (.pv (.int .i64))), (10, .one (.pv (.int .i64)))])] }),
     (44, { res := [(.one (.pv (.sl (.pair .str (.pair (.int .i64) (.int .i64))))))], hand := [], cuts := [] }),
     (45, { res := [(.one (.pv .tree)), (.one (.pv .bool))], hand := [], cuts := [] }),
     (54, { res := [(.ptr [(.pv (.sl (.int .u8))), (.pv (.int .i64))])], hand := [], cuts := [] }),
     (55, { res := [(.one (.pv (.pair .str (.sl (.pair .str .str)))))], hand := [(0, .ptr [(.pv (.sl (.int .u8))), (.pv (.int .i64))])], cuts := [(122, [(0, .box true [(.pv (.sl (.int .u8))), (.pv (.int .i64))]), (2, .box false [(.pv .str), (.pv (.sl (.pair .str .str)))]), (3, .box false [(.pv .str), (.own (.pair .str .str) 0)]), (4, .one (.pv (.int .i64)))])] }),
     (56, { res := [(.one (.pv (.int .i64)))], hand := [(0, .ptr [(.pv (.sl (.int .u8))), (.pv (.int .i64))])], cuts := [] }),
     (57, { res := [(.one (.pv (.pair .str (.sl (.pair .str .str)))))], hand := [(0, .ptr [(.pv (.sl (.int .u8))), (.pv (.int .i64))])], cuts := [(259582, [(0, .box true [(.pv (.sl (.int .u8))), (.pv (.int .i64))]), (4, .box false [(.pv .str), (.pv (.sl (.pair .str .str)))]), (5, .box false [(.pv .str), (.own (.pair .str .str) 0)])])] }),
     (58, { res := [(.one (.pv .str))], hand := [(0, .ptr [(.pv (.sl (.int .u8))), (.pv (.int .i64))])], cuts := [] }),
     (60, { res := [(.one (.pv .bool))], hand := [], cuts := [] }),
     (61, { res := [(.one (.pv .bool))], hand := [], cuts := [] }),
     (62, { res := [(.one (.pv .bool))], hand := [], cuts := [] }),
     (81, { res := [(.one (.pv (.pair .str (.sl (.pair .str .str))))), (.one (.pv .tree))], hand := [(0, .ptr [(.pv (.sl (.int .u8))), (.pv (.int .i64))])], cuts := [] }),
     (82, { res := [(.agg [.pv .str, .pv (.int .i64), .own .tree 0])], hand := [(0, .ptr [(.pv (.sl (.int .u8))), (.pv (.int .i64))])], cuts := [(127, [(0, .box true [(.pv (.sl (.int .u8))), (.pv (.int .i64))]), (2, .one (.pv .str)), (3, .one (.pv (.int .i64))), (5, .box false [(.pv .str), (.pv (.sl (.pair .str .str)))]), (8, .box false [(.pv .str), (.pv (.int .i64)), (.pv (.sl .tree))]), (10, .one (.pv (.int .i64)))]), (2026, [(0, .box true [(.pv (.sl (.int .u8))), (.pv (.int .i64))]), (2, .one (.pv .str)), (3, .one (.pv (.int .i64))), (5, .box false [(.pv .str), (.pv (.sl (.pair .str .str)))]), (8, .box false [(.pv .str), (.pv (.int .i64)), (.pv (.sl .tree))]), (9, .one (.pv (.sl (.int .i64)))), (10, .one (.pv (.int .i64))), (11, .one (.pv (.int .i64)))]), (2042, [(0, .box true [(.pv (.sl (.int .u8))), (.pv (.int .i64))]), (3, .one (.pv (.int .i64))), (5, .box false [(.pv .str), (.pv (.sl (.pair .str .str)))]), (8, .box false [(.pv .str), (.pv (.int .i64)), (.pv (.sl .tree))]), (10, .one (.pv (.int .i64))), (12, .box false [(.pv .str), (.pv (.int .i64)), (.own .tree 0)]), (13, .one (.pv (.int .i64)))])] }),
     (83, { res := [(.one (.pv (.int .i64)))], hand := [(0, .ptr [(.pv (.sl (.int .u8))), (.pv (.int .i64))])], cuts := [] }),
     (87, { res := [(.one (.pv .tree))], hand := [], cuts := [] }),
     (90, { res := [(.one (.pv .str))], hand := [], cuts := [(122, [(1, .box false [(.pv .str), (.pv (.int .i64)), (.pv (.sl .tree))]), (3, .one (.pv .str)), (4, .one (.pv (.int .i64)))])] }),
     (91, { res := [(.one (.own (.pair .tree (.pair .str (.pair (.int .i64) (.int .i64)))) 0))], hand := [(2, (.one (.own (.pair .tree (.pair .str (.pair (.int .i64) (.int .i64)))) 0)))], cuts := [(506, [(2, .one (.own (.pair .tree (.pair .str (.pair (.int .i64) (.int .i64)))) 0)), (7, .one (.pv (.int .i64))), (8, .one (.pv (.int .i64))), (29, .one (.pv (.sl .tree))), (30, .one (.pv (.int .i64))), (31, .one (.pv (.int .i64)))])] }),
     (92, { res := [(.one (.pv (.sl (.pair .str (.pair (.int .i64) (.int .i64))))))], hand := [], cuts := [(250, [(1, .one (.pv (.int .i64))), (2, .box false [(.pv .str), (.pv (.int .i64)), (.pv (.sl .tree))]), (5, .one (.own (.pair .str (.pair (.int .i64) (.int .i64))) 0)), (6, .one (.pv (.int .i64)))])] }),
     (93, { res := [(.one (.pv (.int .i64)))], hand := [], cuts := [(26, [(0, .one (.pv (.sl (.pair .tree (.pair .str (.pair (.int .i64) (.int .i64))))))), (1, .one .any), (7, .one (.pv (.int .i64))), (8, .one (.pv (.int .i64)))])] }),
     (94, { res := [(.one (.pv .bool))], hand := [], cuts := [] }),
     (95, { res := [(.one (.pv .tree))], hand := [], cuts := [(58, [(2, .box false [(.pv .str), (.pv (.int .i64)), (.pv (.sl .tree))]), (3, .box false [(.pv .str), (.pv (.int .i64)), (.own .tree 0)]), (12, .one (.pv (.sl .tree))), (13, .one (.pv (.int .i64))), (14, .one (.pv (.int .i64)))])] }),
     (109, { res := [(.one (.pv (.pair .str (.sl (.pair .str .str)))))], hand := [], cuts := [] }),
     (110, { res := [(.one (.pv .str))], hand := [(0, .ptr [(.pv (.sl (.int .u8))), (.pv (.int .i64))])], cuts := [(58, [(0, .box true [(.pv (.sl (.int .u8))), (.pv (.int .i64))]), (1, .one (.pv (.int .i64))), (5, .one (.pv .str)), (6, .one (.pv (.int .i64)))])] }),
     (111, { res := [(.one (.pv (.int .i64)))], hand := [], cuts := [(26, [(0, .one (.pv (.sl (.pair .str .str)))), (3, .box false [(.pv .str), (.pv .str)]), (5, .one (.pv (.int .i64)))])] }),
     (120, { res := [(.one (.pv (.sl (.int .i64))))], hand := [], cuts := [(58, [(1, .one (.pv .str)), (2, .box false [(.pv .str), (.pv (.sl (.pair .str .str)))]), (5, .one (.own (.int .i64) 0)), (6, .one (.pv (.int .i64)))])] }),
     (124, { res := [(.one (.pv (.pair .str (.sl (.pair .str .str))))), (.one (.pv .tree))], hand := [], cuts := [] })]
def eqs : List (Nat × List Ty) := [(4, [.bool]), (32, [.str, .str]), (64, [.str, (.int .i64), (.int .i64)]), (123, [(.int .i64), (.int .i64)]), (126, [(.int .i64), (.int .i64)]), (141, [(.int .i64), (.int .i64), .str])]
def A : Ann := Ann.mk tys eqs fns
def X : Ext A := ⟨fun f => Nat.beq f 38, fun f args => match f, args with
  | 38, [.agg [.d .str s, .d (.int .i64) r, .d (.sl .tree) k]] => ifE (saneE (Tr.mk s r k) = true ∧ (yieldE (Tr.mk s r k)).length ≤ 140737488355328) (some (yieldE (Tr.mk s r k))) none
  | 38, [.agg [.d .str s, .d (.int .i64) r, .k (.slice none 0 0)]] => ifE (saneE (Tr.mk s r []) = true ∧ (yieldE (Tr.mk s r [])).length ≤ 140737488355328) (some (yieldE (Tr.mk s r []))) none
  | _, _ => none⟩
end Go.Proofs.Ytjdihogbghcajaa.TA
