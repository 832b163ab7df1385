import Derived.Test.YtpoppblfnaipbaaDoorK1
namespace Go.Proofs.YtpoppblfnaipbaaDoor.TA
open Go Go.Proofs.YtpoppblfnaipbaaDoor.Eng
set_option maxRecDepth 100000
set_option linter.unusedVariables false
def tys : List (Nat × Ty) :=
  [(2, .int .i64), (3, .int .i64), (4, .bool), (5, .int .u8), (6, .int .u8), (7, .pair (.int .i64) (.pair (.int .i64) (.pair .bool (.int .u8)))), (8, .pair (.int .i64) (.pair (.int .i64) (.pair .bool (.int .u8)))), (9, .str), (10, .str), (11, .str), (12, .int .u64), (13, .pair .str (.int .u64)), (14, .pair .str (.int .u64)), (21, .int .i32), (22, .sl (.int .u8)), (23, .sl (.pair .str .str)), (24, .pair .str (.sl (.pair .str .str))), (25, .pair .str (.sl (.pair .str .str))), (34, .sl (.pair (.int .i64) (.pair (.int .i64) .str))), (40, .pair .str .str), (41, .pair .str .str), (42, .sl .str), (60, .pair (.int .i64) (.pair (.int .i64) .str)), (61, .pair (.int .i64) (.pair (.int .i64) .str)), (75, .pair (.sl (.int .u8)) (.int .i64)), (76, .pair (.sl (.int .u8)) (.int .i64)), (81, .sl (.int .i64)), (97, .pair .str (.sl .str)), (98, .pair .str (.sl .str)), (109, .int .u64), (117, .int .u32), (125, .pair (.int .u8) (.int .u8)), (126, .pair (.int .u8) (.int .u8)), (135, .int .u8), (136, .int .u8), (138, .int .i32), (139, .int .i32), (143, .int .u64)]
def fns : List (Nat × FA) :=
    [
     (3, { res := [(.one (.pv .bool))], hand := [], cuts := [] }),
     (5, { res := [(.one (.pv (.pair .str (.sl (.pair .str .str)))))], hand := [], cuts := [] }),
     (6, { res := [(.one (.pv .str))], hand := [], cuts := [(122, [(3, .one (.pv .str)), (13, .one (.pv (.sl (.pair .str .str)))), (14, .one (.pv (.int .i64))), (15, .one (.pv (.int .i64)))])] }),
     (7, { res := [(.one (.pv (.pair .str (.sl (.pair .str .str))))), (.one (.pv .bool))], hand := [], cuts := [(250, [(0, .one (.pv .str)), (2, .box false [(.pv .str), (.pv (.sl (.pair .str .str)))]), (5, .box false [(.pv .str), (.own (.pair .str .str) 0)]), (23, .one (.pv (.sl .str))), (24, .one (.pv (.int .i64))), (25, .one (.pv (.int .i64)))])] }),
     (8, { res := [(.one (.pv .str))], hand := [], cuts := [(122, [(1, .box false [(.pv .str), (.pv (.sl (.pair .str .str)))]), (3, .one (.pv .str)), (4, .one (.pv (.int .i64)))])] }),
     (9, { res := [(.one (.pv .bool))], hand := [], cuts := [(58, [(1, .box false [(.pv .str), (.pv (.sl (.pair .str .str)))]), (16, .one (.pv (.sl (.pair .str .str)))), (17, .one (.pv (.int .i64))), (18, .one (.pv (.int .i64)))])] }),
     (10, { res := [(.one (.pv .bool))], hand := [], cuts := [(58, [(1, .box false [(.pv .str), (.pv (.sl (.pair .str .str)))]), (3, .one (.pv (.int .i64)))])] }),
     (11, { res := [(.one (.pv .bool))], hand := [], cuts := [] }),
     (12, { res := [(.one (.pv .str))], hand := [], cuts := [] }),
     (13, { res := [(.one (.pv (.pair .str (.sl (.pair .str .str))))), (.one (.pv .bool))], hand := [], cuts := [(122, [(0, .one (.pv .str)), (2, .box false [(.pv .str), (.pv (.sl (.pair .str .str)))]), (4, .one (.pv (.sl .str))), (5, .box false [(.pv .str), (.own (.pair .str .str) 0)]), (6, .one (.pv (.int .i64)))]), (15655, [(0, .one (.pv .str)), (2, .box false [(.pv .str), (.pv (.sl (.pair .str .str)))]), (4, .one (.pv (.sl .str))), (5, .box false [(.pv .str), (.own (.pair .str .str) 0)]), (6, .one (.pv (.int .i64))), (8, .box false [(.pv .str), (.pv .str)])])] }),
     (19, { res := [(.one (.pv (.pair .str (.sl (.pair .str .str)))))], hand := [], cuts := [] }),
     (20, { res := [(.one (.pv (.sl .str)))], hand := [], cuts := [] }),
     (21, { res := [(.one (.pv .str))], hand := [], cuts := [] }),
     (22, { res := [(.one (.pv .str)), (.one (.pv .str)), (.one (.pv .bool))], hand := [], cuts := [] }),
     (23, { res := [(.one (.pv .bool))], hand := [], cuts := [] }),
     (24, { res := [(.one (.pv .bool))], hand := [], cuts := [] }),
     (25, { res := [(.one (.pv .bool))], hand := [], cuts := [] }),
     (26, { res := [(.one (.pv .bool))], hand := [], cuts := [] }),
     (27, { res := [(.one (.pv .bool))], hand := [], cuts := [(26, [(0, .one (.pv .str)), (1, .one (.pv (.int .i64))), (5, .one (.pv (.int .i64)))])] }),
     (28, { res := [(.one (.pv (.int .i64)))], hand := [], cuts := [(26, [(0, .one (.pv (.sl (.pair .str .str)))), (3, .box false [(.pv .str), (.pv .str)]), (5, .one (.pv (.int .i64)))])] }),
     (29, { res := [(.one (.pv .bool))], hand := [], cuts := [(58, [(0, .one (.pv (.sl (.pair .str .str)))), (1, .one (.pv (.sl (.pair .str .str)))), (12, .one (.pv (.int .i64))), (13, .one (.pv (.int .i64)))])] }),
     (30, { res := [(.ptr [(.pv (.sl (.int .u8))), (.pv (.int .i64))])], hand := [], cuts := [] }),
     (31, { res := [(.one (.pv .str))], hand := [(0, .ptr [(.pv (.sl (.int .u8))), (.pv (.int .i64))])], cuts := [] }),
     (32, { res := [(.one (.pv (.pair .str (.sl (.pair .str .str)))))], hand := [(0, .ptr [(.pv (.sl (.int .u8))), (.pv (.int .i64))])], cuts := [(122, [(0, .box true [(.pv (.sl (.int .u8))), (.pv (.int .i64))]), (2, .box false [(.pv .str), (.pv (.sl (.pair .str .str)))]), (3, .box false [(.pv .str), (.own (.pair .str .str) 0)]), (4, .one (.pv (.int .i64)))])] }),
     (33, { res := [(.one (.pv (.sl .str)))], hand := [], cuts := [(122, [(0, .one (.pv .str)), (1, .one (.pv (.int .u8))), (5, .one (.own .str 0)), (6, .one (.pv (.int .i64))), (7, .one (.pv (.int .i64)))])] }),
     (43, { res := [(.one (.pv (.pair .str (.sl (.pair .str .str)))))], hand := [(0, .ptr [(.pv (.sl (.int .u8))), (.pv (.int .i64))])], cuts := [(259582, [(0, .box true [(.pv (.sl (.int .u8))), (.pv (.int .i64))]), (4, .box false [(.pv .str), (.pv (.sl (.pair .str .str)))]), (5, .box false [(.pv .str), (.own (.pair .str .str) 0)])])] }),
     (44, { res := [(.one (.pv (.sl .str)))], hand := [], cuts := [(31, [(0, .one (.pv .str)), (1, .one (.pv .str)), (2, .one (.pv (.int .i64))), (3, .one (.pv (.int .i64)))]), (1023, [(0, .one (.pv .str)), (9, .one (.own .str 0)), (10, .one (.pv (.int .i64)))]), (2044, [(0, .one (.pv .str)), (1, .one (.pv .str)), (2, .one (.pv (.int .i64))), (3, .one (.pv (.int .i64))), (9, .one (.own .str 0)), (10, .one (.pv (.int .i64)))])] }),
     (45, { res := [(.one (.pv .str))], hand := [], cuts := [] }),
     (46, { res := [(.one (.pv .str)), (.one (.pv .str)), (.one (.pv .bool))], hand := [], cuts := [] }),
     (47, { res := [(.one (.pv .bool))], hand := [], cuts := [] }),
     (48, { res := [(.one (.pv .str))], hand := [], cuts := [] }),
     (49, { res := [(.one (.pv (.int .i64)))], hand := [], cuts := [(26, [(0, .one (.pv (.sl (.pair .str .str)))), (3, .box false [(.pv .str), (.pv .str)]), (7, .one (.pv (.int .i64))), (8, .one (.pv (.int .i64)))])] }),
     (50, { res := [(.one (.pv .bool))], hand := [], cuts := [] }),
     (51, { res := [(.one (.pv .bool))], hand := [], cuts := [] }),
     (52, { res := [(.one (.pv (.int .i64)))], hand := [(0, .ptr [(.pv (.sl (.int .u8))), (.pv (.int .i64))])], cuts := [] }),
     (53, { res := [(.one (.pv .str))], hand := [(0, .ptr [(.pv (.sl (.int .u8))), (.pv (.int .i64))])], cuts := [] }),
     (54, { res := [(.one (.pv (.pair .str (.sl (.pair .str .str)))))], hand := [], cuts := [] }),
     (55, { res := [(.one (.pv (.int .i64)))], hand := [(0, .ptr [(.pv (.sl (.int .u8))), (.pv (.int .i64))])], cuts := [] }),
     (56, { res := [(.one (.pv .str))], hand := [(0, .ptr [(.pv (.sl (.int .u8))), (.pv (.int .i64))])], cuts := [(58, [(0, .box true [(.pv (.sl (.int .u8))), (.pv (.int .i64))]), (1, .one (.pv (.int .i64))), (5, .one (.pv .str)), (6, .one (.pv (.int .i64)))])] }),
     (64, { res := [(.one (.pv (.sl .str)))], hand := [], cuts := [(15, [(0, .one (.pv .str)), (1, .one (.pv (.int .i64)))]), (250, [(0, .one (.pv .str)), (1, .one (.pv (.int .i64))), (6, .one (.own .str 0)), (7, .one (.pv (.int .i64)))])] }),
     (65, { res := [(.one (.pv (.int .i64)))], hand := [], cuts := [(62, [(0, .one (.pv .str)), (1, .one (.pv .str)), (5, .one (.pv (.int .i64)))])] }),
     (66, { res := [(.one (.pv (.int .i64)))], hand := [], cuts := [] }),
     (67, { res := [(.one (.pv .bool))], hand := [], cuts := [] }),
     (68, { res := [(.one (.pv (.int .i64)))], hand := [], cuts := [(2044, [(0, .one (.pv .str)), (1, .one (.pv .str)), (5, .one (.pv (.int .i64))), (6, .one (.pv (.int .u8))), (7, .one (.pv (.int .u8))), (8, .one (.pv (.int .i64))), (9, .one (.pv (.int .i64))), (10, .one (.pv (.int .i64)))]), (32709, [(0, .one (.pv .str)), (1, .one (.pv .str)), (5, .one (.pv (.int .i64))), (6, .one (.pv (.int .u8))), (7, .one (.pv (.int .u8))), (8, .one (.pv (.int .i64))), (9, .one (.pv (.int .i64))), (10, .one (.pv (.int .i64)))])] })]
def eqs : List (Nat × List Ty) := [(4, [.bool]), (41, [.str, .str]), (61, [(.int .i64), (.int .i64), .str])]
def A : Ann := Ann.mk tys eqs fns [34]
def X : Ext A := ⟨fun f => Nat.beq f 48 || Nat.beq f 64 || Nat.beq f 65 || Nat.beq f 68 || Nat.beq f 84, fun f args => match f, args with
  | 48, [.d .str s, .d .str c] => ifE (s.length ≤ 9223372036854775807 ∧ c.length < 4294967281 ∧ (c.all fun b => decide (b.toNat < 128)) = true) (some (trimE s c)) none
  | 65, [.d .str s, .d .str c] => ifE (c.length = 1) (some ((List.count (c.getD 0 0) s : Nat) : Int)) none
  | 68, [.d .str s, .d .str c] => ifE (c.length = 1) (some (idxE s (c.getD 0 0))) none
  | _, _ => none⟩
end Go.Proofs.YtpoppblfnaipbaaDoor.TA
