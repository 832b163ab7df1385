import Derived.Test.YtiiefhpoomliaaaK1
namespace Go.Proofs.Ytiiefhpoomliaaa.TA
open Go Go.Proofs.Ytiiefhpoomliaaa.Eng
set_option maxRecDepth 100000
set_option linter.unusedVariables false
def tys : List (Nat × Ty) :=
  [(2, .int .i64), (3, .int .i64), (4, .bool), (5, .int .u8), (6, .int .u8), (7, .pair (.int .i64) (.pair (.int .i64) (.pair .bool (.int .u8)))), (8, .pair (.int .i64) (.pair (.int .i64) (.pair .bool (.int .u8)))), (9, .str), (10, .str), (11, .str), (12, .int .u64), (13, .pair .str (.int .u64)), (14, .pair .str (.int .u64)), (21, .int .i32), (22, .sl .bool), (23, .sl (.sl (.int .i64))), (24, .pair (.int .i64) (.pair (.sl .bool) (.sl (.sl (.int .i64))))), (25, .pair (.int .i64) (.pair (.sl .bool) (.sl (.sl (.int .i64))))), (27, .pair (.int .i64) (.pair (.sl .bool) (.sl (.sl (.int .i64))))), (39, .pair (.int .i64) (.int .i64)), (40, .pair (.int .i64) (.int .i64)), (41, .sl (.pair (.int .i64) (.int .i64))), (42, .sl (.int .i64)), (46, .pair (.int .i64) (.int .i64)), (47, .sl (.pair (.int .i64) (.int .i64))), (60, .int .u64), (65, .int .u32), (68, .int .u64), (78, .int .u8), (79, .int .u8), (82, .int .i32), (83, .int .i32)]
def fns : List (Nat × FA) :=
    [
     (3, { res := [(.one (.pv .bool))], hand := [], cuts := [] }),
     (5, { res := [(.one (.pv (.int .i64)))], hand := [], cuts := [] }),
     (6, { res := [(.one (.pv (.pair (.int .i64) (.pair (.sl .bool) (.sl (.sl (.int .i64))))))), (.one (.pv .bool))], hand := [], cuts := [(250, [(2, .box false [(.pv (.int .i64)), (.pv (.sl .bool)), (.pv (.sl (.sl (.int .i64))))]), (3, .box false [(.pv (.int .i64)), (.pv (.sl .bool)), (.pv (.sl (.sl (.int .i64))))]), (4, .box false [(.pv (.int .i64)), (.pv (.sl .bool)), (.pv (.sl (.sl (.int .i64))))]), (6, .one (.own (.pair (.int .i64) (.int .i64)) 0)), (7, .box false [(.pv (.int .i64)), (.own .bool 0), (.own (.sl (.int .i64)) 0)]), (8, .one (.pv (.int .i64)))]), (64074, [(2, .box false [(.pv (.int .i64)), (.pv (.sl .bool)), (.pv (.sl (.sl (.int .i64))))]), (3, .box false [(.pv (.int .i64)), (.pv (.sl .bool)), (.pv (.sl (.sl (.int .i64))))]), (4, .box false [(.pv (.int .i64)), (.pv (.sl .bool)), (.pv (.sl (.sl (.int .i64))))]), (6, .one (.own (.pair (.int .i64) (.int .i64)) 0)), (7, .box false [(.pv (.int .i64)), (.own .bool 0), (.own (.sl (.int .i64)) 0)]), (8, .one (.pv (.int .i64))), (9, .one (.own (.int .i64) 0)), (10, .one (.pv (.int .i64)))]), (8201511, [(2, .box false [(.pv (.int .i64)), (.pv (.sl .bool)), (.pv (.sl (.sl (.int .i64))))]), (3, .box false [(.pv (.int .i64)), (.pv (.sl .bool)), (.pv (.sl (.sl (.int .i64))))]), (4, .box false [(.pv (.int .i64)), (.pv (.sl .bool)), (.pv (.sl (.sl (.int .i64))))]), (6, .one (.own (.pair (.int .i64) (.int .i64)) 0)), (7, .box false [(.pv (.int .i64)), (.own .bool 0), (.own (.sl (.int .i64)) 0)]), (8, .one (.pv (.int .i64))), (9, .one (.own (.int .i64) 0)), (10, .one (.pv (.int .i64))), (11, .box false [(.pv (.int .i64)), (.pv (.int .i64))])])] }),
     (7, { res := [(.agg [.pv (.int .i64), .own .bool 0, .own (.sl (.int .i64)) 1])], hand := [], cuts := [] }),
     (8, { res := [(.agg [.pv (.int .i64), .own .bool 0, .own (.sl (.int .i64)) 1]), (.one (.pv .bool))], hand := [], cuts := [(250, [(2, .box false [(.pv (.int .i64)), (.pv (.sl .bool)), (.pv (.sl (.sl (.int .i64))))]), (3, .box false [(.pv (.int .i64)), (.pv (.sl .bool)), (.pv (.sl (.sl (.int .i64))))]), (4, .box false [(.pv (.int .i64)), (.own .bool 0), (.own (.sl (.int .i64)) 1)]), (6, .box false [(.pv (.int .i64)), (.own .bool 0), (.own (.sl (.int .i64)) 1)]), (7, .one (.own (.pair (.int .i64) (.int .i64)) 0)), (8, .one (.pv (.int .i64)))]), (256314, [(2, .box false [(.pv (.int .i64)), (.pv (.sl .bool)), (.pv (.sl (.sl (.int .i64))))]), (3, .box false [(.pv (.int .i64)), (.pv (.sl .bool)), (.pv (.sl (.sl (.int .i64))))]), (4, .box false [(.pv (.int .i64)), (.own .bool 0), (.own (.sl (.int .i64)) 1)]), (6, .box false [(.pv (.int .i64)), (.own .bool 0), (.own (.sl (.int .i64)) 1)]), (7, .one (.own (.pair (.int .i64) (.int .i64)) 0)), (8, .one (.pv (.int .i64))), (9, .box false [(.pv (.int .i64)), (.pv (.int .i64))]), (10, .one (.own (.int .i64) 0)), (60, .one (.pv (.int .i64)))])] }),
     (9, { res := [(.one (.pv .bool))], hand := [], cuts := [] }),
     (11, { res := [(.one (.pv (.int .i64)))], hand := [], cuts := [] }),
     (14, { res := [(.one (.pv (.int .i64)))], hand := [], cuts := [] }),
     (15, { res := [(.one (.pv (.int .i64)))], hand := [], cuts := [(122, [(0, .one (.pv (.sl (.sl (.int .i64))))), (1, .one (.pv (.int .i64))), (5, .one (.pv (.int .i64)))])] }),
     (16, { res := [(.one (.pv .bool))], hand := [], cuts := [(122, [(1, .box false [(.pv (.int .i64)), (.pv (.sl .bool)), (.pv (.sl (.sl (.int .i64))))]), (3, .one (.pv (.int .i64))), (4, .one (.pv (.int .i64)))]), (15654, [(1, .box false [(.pv (.int .i64)), (.pv (.sl .bool)), (.pv (.sl (.sl (.int .i64))))]), (3, .one (.pv (.int .i64))), (4, .one (.pv (.int .i64))), (5, .one (.pv (.int .i64)))])] }),
     (17, { res := [(.one (.pv (.int .i64)))], hand := [], cuts := [(26, [(0, .one (.pv (.sl (.pair (.int .i64) (.int .i64))))), (3, .box false [(.pv (.int .i64)), (.pv (.int .i64))]), (5, .one (.pv (.int .i64)))])] }),
     (18, { res := [(.one (.own .bool 0))], hand := [], cuts := [(58, [(0, .one (.pv (.sl .bool))), (3, .one (.own .bool 0)), (4, .one (.pv (.int .i64)))])] }),
     (19, { res := [(.one (.own (.sl (.int .i64)) 1))], hand := [], cuts := [(58, [(0, .one (.pv (.sl (.sl (.int .i64))))), (3, .one (.own (.sl (.int .i64)) 1)), (4, .one (.pv (.int .i64)))])] }),
     (20, { res := [(.one (.pv .bool))], hand := [], cuts := [] }),
     (21, { res := [(.one (.pv (.int .i64)))], hand := [], cuts := [(26, [(0, .one (.pv (.sl (.pair (.int .i64) (.int .i64))))), (3, .box false [(.pv (.int .i64)), (.pv (.int .i64))]), (7, .one (.pv (.int .i64))), (8, .one (.pv (.int .i64)))])] }),
     (22, { res := [(.one (.pv .bool))], hand := [], cuts := [(58, [(0, .one (.pv (.sl .bool))), (1, .one (.pv (.sl .bool))), (5, .one (.pv (.int .i64)))])] }),
     (23, { res := [(.one (.pv .bool))], hand := [], cuts := [(58, [(0, .one (.pv (.sl (.sl (.int .i64))))), (1, .one (.pv (.sl (.sl (.int .i64))))), (5, .one (.pv (.int .i64)))])] }),
     (26, { res := [(.one (.pv (.int .i64)))], hand := [], cuts := [(26, [(0, .one (.pv (.sl .bool))), (1, .one (.pv (.int .i64))), (5, .one (.pv (.int .i64)))])] }),
     (27, { res := [(.one (.pv (.int .i64)))], hand := [], cuts := [(26, [(0, .one (.pv (.sl (.sl (.int .i64))))), (1, .one (.pv (.int .i64))), (5, .one (.pv (.int .i64)))])] }),
     (34, { res := [(.one (.pv (.int .i64)))], hand := [], cuts := [] }),
     (35, { res := [(.one (.own (.int .i64) 0))], hand := [], cuts := [(58, [(0, .one (.pv (.sl (.int .i64)))), (3, .one (.own (.int .i64) 0)), (4, .one (.pv (.int .i64)))])] }),
     (36, { res := [(.one (.pv .bool))], hand := [], cuts := [] }),
     (37, { res := [(.one (.pv .bool))], hand := [], cuts := [] }),
     (38, { res := [(.one (.pv .bool))], hand := [], cuts := [] }),
     (39, { res := [(.one (.pv .bool))], hand := [], cuts := [] }),
     (40, { res := [(.one (.pv .bool))], hand := [], cuts := [] }),
     (41, { res := [(.one (.pv .bool))], hand := [], cuts := [(58, [(0, .one (.pv (.sl (.int .i64)))), (1, .one (.pv (.sl (.int .i64)))), (5, .one (.pv (.int .i64)))])] }),
     (43, { res := [(.one (.pv (.int .i64)))], hand := [], cuts := [(26, [(0, .one (.pv (.sl (.int .i64)))), (1, .one (.pv (.int .i64))), (5, .one (.pv (.int .i64)))])] }),
     (45, { res := [(.one (.pv (.int .i64)))], hand := [], cuts := [(26, [(0, .one (.pv (.sl (.sl (.int .i64))))), (1, .one .any), (7, .one (.pv (.int .i64))), (8, .one (.pv (.int .i64)))])] }),
     (46, { res := [(.one (.pv (.int .i64)))], hand := [], cuts := [(26, [(0, .one (.pv (.sl (.int .i64)))), (1, .one .any), (7, .one (.pv (.int .i64))), (8, .one (.pv (.int .i64)))])] })]
def eqs : List (Nat × List Ty) := [(4, [.bool]), (40, [(.int .i64), (.int .i64)]), (46, [(.int .i64), (.int .i64)])]
def A : Ann := Ann.mk tys eqs fns [] [] [42] [10]
def X : Ext A := ⟨fun f => Nat.beq f 33, fun f args => match f, args with
  | _, _ => none⟩
end Go.Proofs.Ytiiefhpoomliaaa.TA
