/- The machine answers, at each function of the program that is reached, what its plain function answers. Conditions: none. -/
import Derived.Test.YtigjhjlkdamncaaProg
import Derived.KernelRfl
import Derived.Test.YtigjhjlkdamncaaSimRm
import Derived.Test.YtigjhjlkdamncaaTbgT
namespace Go.Proofs.Ytigjhjlkdamncaa
open Go Go.Sim Go.Pw Go.Proofs
set_option linter.unusedVariables false
set_option linter.unusedSimpArgs false
set_option maxRecDepth 100000
set_option maxHeartbeats 4000000
noncomputable section

def e_S_Bond (x : S_Bond) : AV := .agg [.sc (.string x.Name), .sc (.int .i64 x.Spread), .sc (.int .i64 x.Open), .sc (.int .i64 x.Press)]
def e_S_l24Search (x : S_l24Search) : AV := .agg [.row 4 (List.map e_S_Bond x.list), .sc (.int .i64 x.presses), .row 1 (List.map eI x.order), .row 1 (List.map eI x.best), .sc (.int .i64 x.least), .sc (.int .i64 x.nodes), .sc (.int .i64 x.budget), .sc (.bool x.full)]
def e_S_glueSearch (x : S_glueSearch) : AV := .agg [.row 4 (List.map e_S_Bond x.list), .sc (.int .i64 x.presses), .sc (.int .i64 x.left), .sc (.bool x.found), .row 1 (List.map eI x.best), .sc (.int .i64 x.least)]
def e_Ar4_Int (x : Ar4_Int) : AV := .agg [.sc (.int .i64 x.e0), .sc (.int .i64 x.e1), .sc (.int .i64 x.e2), .sc (.int .i64 x.e3)]
def e_S_gluing (x : S_gluing) : AV := .agg [.sc (.int .i64 x.ready), .sc (.int .i64 x.free.e0), .sc (.int .i64 x.free.e1), .sc (.int .i64 x.free.e2), .sc (.int .i64 x.free.e3), .sc (.int .i64 x.end_)]
def e_S_glued (x : S_glued) : AV := .agg [.sc (.int .i64 x.start), .sc (.int .i64 x.press), .sc (.int .i64 x.begin), .sc (.int .i64 x.end_)]

def fc8 : FCfg := { par := [.cst false, .cst false, .cst false], inn := [(14, some ([0, 1, 2, 8, 9, 10, 12, 13, 14, 15], [8, 12])), (18, some ([0, 1, 2, 8, 9, 10, 12, 16], [8, 12]))], out := [(8, some ([0, 1, 2, 8, 9, 10, 11, 12, 13, 14, 58], [8, 11, 12])), (14, some ([0, 1, 2, 8, 9, 10, 12, 84], [8, 12])), (25, some ([12, 16, 118], [12]))], loopK := [], frz := [], sch := [] }
def fc27 : FCfg := { par := [.cst false, .cst false], inn := [(8, some ([], []))], out := [(6, some ([0, 1, 5, 25], []))], loopK := [(4, ([0, 1, 5], []))], frz := [], sch := [(6, .first 0 [2, 3, 8] [1, 4, 5, 6, 7] (.first 1 [2, 3, 8] [4, 5, 6, 7] (.first 2 [3, 8] [4, 5, 6, 7] (.first 3 [8] [4, 5, 6, 7] (.first 4 [6, 7, 8] [5] (.first 5 [6, 7, 8] [] (.first 6 [7, 8] [] (.first 7 [8] [] (.first 8 [] [] (.done))))))))))] }
def fc30 : FCfg := { par := [.row, .cst false], inn := [(5, some ([0, 1, 5], [0])), (6, some ([1], [0]))], out := [], loopK := [(2, ([0, 1, 5], [0]))], frz := [], sch := [] }
def fc31 : FCfg := { par := [.cst false, .cst false], inn := [(7, some ([1], []))], out := [], loopK := [(2, ([0, 1, 5], []))], frz := [], sch := [] }
def fc53 : FCfg := { par := [.cst false, .cst false], inn := [(10, some ([1], []))], out := [], loopK := [(5, ([0, 1, 5], []))], frz := [], sch := [] }
def fc54 : FCfg := { par := [.cst false, .cst false, .cst false], inn := [(6, some ([9], [25])), (7, some ([9], [25]))], out := [(3, some ([0, 1, 2, 20], [])), (9, some ([6, 7, 8], [6]))], loopK := [], frz := [], sch := [(9, .first 0 [1, 2, 3, 8, 9, 10] [4, 5, 6, 7] (.first 1 [2, 3, 8, 9, 10] [4, 5, 6, 7] (.first 2 [3, 8, 9, 10] [4, 5, 6, 7] (.first 3 [8, 9, 10] [4, 5, 6, 7] (.first 4 [5, 6, 7, 9, 10] [8] (.fork 5 (.fork 6 (.fork 7 (.fork 8 (.fork 9 (.fork 10 (.done) (.stop)) (.stop)) (.stop)) (.fork 8 (.first 7 [9, 10] [] (.fork 9 (.fork 10 (.done) (.stop)) (.stop))) (.stop))) (.fork 8 (.first 6 [7, 9, 10] [] (.first 7 [9, 10] [] (.fork 9 (.fork 10 (.done) (.stop)) (.stop)))) (.stop))) (.fork 8 (.first 5 [6, 7, 9, 10] [] (.first 6 [7, 9, 10] [] (.first 7 [9, 10] [] (.fork 9 (.fork 10 (.done) (.stop)) (.stop))))) (.stop))))))))] }
def fc55 : FCfg := { par := [.cst false], inn := [(4, some ([0, 3, 4], [3])), (6, some ([3], [3]))], out := [], loopK := [(3, ([0, 3, 4], [3]))], frz := [], sch := [] }
def fc56 : FCfg := { par := [.cst false, .cst false, .cst false], inn := [(4, some ([0, 1, 2, 9], [])), (7, some ([10], [28])), (8, some ([], [])), (9, some ([10], [28]))], out := [(2, some ([0, 1, 2, 9, 20], [])), (9, some ([6, 7, 8], [6]))], loopK := [], frz := [], sch := [(9, .first 0 [1, 2, 3, 8, 9, 10] [4, 5, 6, 7] (.first 1 [2, 3, 8, 9, 10] [4, 5, 6, 7] (.first 2 [3, 8, 9, 10] [4, 5, 6, 7] (.first 3 [8, 9, 10] [4, 5, 6, 7] (.first 4 [5, 6, 7, 9, 10] [8] (.fork 5 (.fork 6 (.fork 7 (.fork 8 (.fork 9 (.fork 10 (.done) (.stop)) (.stop)) (.stop)) (.fork 8 (.first 7 [9, 10] [] (.fork 9 (.fork 10 (.done) (.stop)) (.stop))) (.stop))) (.fork 8 (.first 6 [7, 9, 10] [] (.first 7 [9, 10] [] (.fork 9 (.fork 10 (.done) (.stop)) (.stop)))) (.stop))) (.fork 8 (.first 5 [6, 7, 9, 10] [] (.first 6 [7, 9, 10] [] (.first 7 [9, 10] [] (.fork 9 (.fork 10 (.done) (.stop)) (.stop))))) (.stop))))))))] }
def fc57 : FCfg := { par := [.cst false, .cst false], inn := [(8, some ([], []))], out := [(6, some ([0, 1, 5, 26], []))], loopK := [(4, ([0, 1, 5], []))], frz := [], sch := [(6, .first 0 [2, 3, 8, 9] [1, 4, 5, 6, 7] (.first 1 [2, 3, 8, 9] [4, 5, 6, 7] (.first 2 [3, 8, 9] [4, 5, 6, 7] (.first 3 [8, 9] [4, 5, 6, 7] (.first 4 [6, 7, 8, 9] [5] (.first 5 [6, 7, 8, 9] [] (.first 6 [7, 8, 9] [] (.first 7 [8, 9] [] (.fork 8 (.first 9 [] [] (.done)) (.stop))))))))))] }
def fc58 : FCfg := { par := [.row, .cst false], inn := [(5, some ([0, 1, 5], [0])), (7, some ([0, 1, 5], [0])), (9, some ([0, 1, 5], [0])), (11, some ([0, 1, 5], [0])), (12, some ([1], [0]))], out := [], loopK := [(2, ([0, 1, 5], [0]))], frz := [], sch := [] }
def fc92 : FCfg := { par := [.cst false, .cst false, .cst false], inn := [], out := [(1, some ([6], []))], loopK := [], frz := [], sch := [] }
def fc102 : FCfg := { par := [.cst false, .cst false, .cst false], inn := [], out := [(1, some ([6], []))], loopK := [], frz := [], sch := [] }
def fc105 : FCfg := { par := [.cst false], inn := [], out := [], loopK := [], frz := [], sch := [] }
def fc108 : FCfg := { par := [.cst false], inn := [(7, some ([3], []))], out := [], loopK := [(4, ([0, 3], []))], frz := [], sch := [] }
def fc133 : FCfg := { par := [.cst false, .cst false], inn := [], out := [], loopK := [], frz := [], sch := [] }
def fc134 : FCfg := { par := [.cst false], inn := [(6, some ([0], []))], out := [(4, some ([0, 3, 32], []))], loopK := [(2, ([0, 3], []))], frz := [], sch := [(4, .first 0 [2, 3, 4, 5, 6, 7, 8, 9, 10, 11, 12, 13, 14, 15, 16, 17, 18, 19, 20, 21, 22] [1] (.first 1 [2, 3, 4, 5, 6, 7, 8, 9, 10, 11, 12, 13, 14, 15, 16, 17, 18, 19, 20, 21, 22] [] (.first 2 [3, 4, 5, 6, 7, 8, 9, 10, 11, 12, 13, 14, 15, 16, 17, 18, 19, 20, 21, 22] [] (.fork 3 (.first 4 [5, 6, 7, 8, 9, 10, 11, 12, 13, 14, 15, 16, 17, 18, 19, 20, 21, 22] [] (.first 5 [6, 7, 8, 9, 10, 11, 12, 13, 14, 15, 16, 17, 18, 19, 20, 21, 22] [] (.first 6 [7, 8, 9, 10, 11, 12, 13, 14, 15, 16, 17, 18, 19, 20, 21, 22] [] (.first 7 [8, 9, 10, 11, 12, 13, 14, 15, 16, 17, 18, 19, 20, 21, 22] [] (.first 8 [9, 10, 11, 12, 13, 14, 15, 16, 17, 18, 19, 20, 21, 22] [] (.first 9 [12, 13, 14, 20, 21, 22] [10, 11, 15, 16, 17, 18, 19] (.first 10 [11, 12, 13, 14, 20, 21, 22] [15, 16, 17, 18, 19] (.first 11 [12, 13, 14, 20, 21, 22] [15, 16, 17, 18, 19] (.first 12 [13, 14, 20, 21, 22] [15, 16, 17, 18, 19] (.first 13 [14, 20, 21, 22] [15, 16, 17, 18, 19] (.first 14 [20, 21, 22] [15, 16, 17, 18, 19] (.first 15 [17, 18, 19, 20, 21, 22] [16] (.first 16 [17, 18, 19, 20, 21, 22] [] (.first 17 [18, 19, 20, 21, 22] [] (.first 18 [19, 20, 21, 22] [] (.first 19 [20, 21, 22] [] (.first 20 [21, 22] [] (.first 21 [22] [] (.first 22 [] [] (.done)))))))))))))))))))) (.stop)))))] }
def fc135 : FCfg := { par := [.ptr [.imm, .imm, .sh, .sh, .imm, .imm, .imm, .imm]], inn := [(6, some ([0, 2, 3], [0])), (9, some ([0, 2, 3], [0])), (13, some ([0, 2, 3], [0])), (14, some ([0, 2, 3], [0]))], out := [(0, some ([0, 14], [0])), (1, some ([0], [0])), (5, some ([0, 2, 3, 58], [0])), (9, some ([0, 2, 3, 102], [0])), (10, some ([0, 2, 3, 111], [0]))], loopK := [(5, ([0, 2, 3], [0]))], frz := [], sch := [(0, .first 0 [1, 2, 3, 4, 10] [5, 6, 7, 8, 9] (.first 1 [2, 3, 4, 10] [5, 6, 7, 8, 9] (.first 2 [3, 4, 10] [5, 6, 7, 8, 9] (.first 3 [4, 10] [5, 6, 7, 8, 9] (.first 4 [10] [5, 6, 7, 8, 9] (.first 5 [6, 7, 8, 9, 10] [] (.first 6 [7, 8, 9, 10] [] (.first 7 [8, 9, 10] [] (.first 8 [9, 10] [] (.first 9 [10] [] (.first 10 [] [] (.done)))))))))))), (1, .first 0 [15, 16, 17] [1, 2, 3, 4, 5, 6, 7, 8, 9, 10, 11, 12, 13, 14] (.first 1 [2, 3, 4, 13, 14, 15, 16, 17] [5, 6, 7, 8, 9, 10, 11, 12] (.first 2 [3, 4, 13, 14, 15, 16, 17] [5, 6, 7, 8, 9, 10, 11, 12] (.first 3 [4, 13, 14, 15, 16, 17] [5, 6, 7, 8, 9, 10, 11, 12] (.first 4 [13, 14, 15, 16, 17] [5, 6, 7, 8, 9, 10, 11, 12] (.first 5 [6, 7, 8, 13, 14, 15, 16, 17] [9, 10, 11, 12] (.first 6 [7, 8, 13, 14, 15, 16, 17] [9, 10, 11, 12] (.first 7 [8, 13, 14, 15, 16, 17] [9, 10, 11, 12] (.first 8 [13, 14, 15, 16, 17] [9, 10, 11, 12] (.first 9 [10, 11, 12, 13, 14, 15, 16, 17] [] (.first 10 [11, 12, 13, 14, 15, 16, 17] [] (.first 11 [12, 13, 14, 15, 16, 17] [] (.first 12 [13, 14, 15, 16, 17] [] (.fork 13 (.fork 14 (.first 15 [16, 17] [] (.first 16 [17] [] (.fork 17 (.done) (.stop)))) (.stop)) (.stop))))))))))))))), (9, .first 0 [1, 2, 3, 4, 5, 6, 7, 8, 9, 10, 11, 12, 13, 14, 15, 16, 17, 18, 19, 20, 21, 22, 23, 24, 25] [] (.first 1 [2, 3, 4, 5, 6, 7, 8, 9, 10, 11, 12, 13, 14, 15, 16, 17, 18, 19, 20, 21, 22, 23, 24, 25] [] (.first 2 [3, 4, 5, 6, 7, 8, 9, 10, 11, 12, 13, 14, 15, 16, 17, 18, 19, 20, 21, 22, 23, 24, 25] [] (.first 3 [4, 5, 6, 7, 8, 9, 10, 11, 12, 13, 14, 15, 16, 17, 18, 19, 20, 21, 22, 23, 24, 25] [] (.first 4 [5, 6, 7, 8, 9, 10, 11, 12, 13, 14, 15, 16, 17, 18, 19, 20, 21, 22, 23, 24, 25] [] (.first 5 [6, 7, 8, 9, 10, 11, 12, 13, 14, 15, 16, 17, 18, 19, 20, 21, 22, 23, 24, 25] [] (.first 6 [7, 8, 9, 18, 19, 24, 25] [10, 11, 12, 13, 14, 15, 16, 17, 20, 21, 22, 23] (.first 7 [8, 9, 18, 19, 24, 25] [10, 11, 12, 13, 14, 15, 16, 17, 20, 21, 22, 23] (.first 8 [9, 18, 19, 24, 25] [10, 11, 12, 13, 14, 15, 16, 17, 20, 21, 22, 23] (.first 9 [18, 19, 24, 25] [10, 11, 12, 13, 14, 15, 16, 17, 20, 21, 22, 23] (.first 10 [11, 12, 13, 18, 19, 24, 25] [14, 15, 16, 17, 20, 21, 22, 23] (.first 11 [12, 13, 18, 19, 24, 25] [14, 15, 16, 17, 20, 21, 22, 23] (.first 12 [13, 18, 19, 24, 25] [14, 15, 16, 17, 20, 21, 22, 23] (.first 13 [18, 19, 24, 25] [14, 15, 16, 17, 20, 21, 22, 23] (.first 14 [15, 16, 17, 18, 19, 24, 25] [20, 21, 22, 23] (.first 15 [16, 17, 18, 19, 24, 25] [20, 21, 22, 23] (.first 16 [17, 18, 19, 24, 25] [20, 21, 22, 23] (.first 17 [18, 19, 24, 25] [20, 21, 22, 23] (.first 20 [21, 22, 23, 24, 25] [18, 19] (.first 21 [22, 23, 24, 25] [18, 19] (.first 22 [23, 24, 25] [18, 19] (.first 23 [24, 25] [18, 19] (.fork 18 (.fork 19 (.first 24 [25] [] (.first 25 [] [] (.done))) (.stop)) (.stop)))))))))))))))))))))))), (10, .first 0 [1, 2, 3, 8] [4, 5, 6, 7] (.first 1 [2, 3, 8] [4, 5, 6, 7] (.first 2 [3, 8] [4, 5, 6, 7] (.first 3 [8] [4, 5, 6, 7] (.first 4 [5, 6, 7, 8] [] (.first 5 [6, 7, 8] [] (.first 6 [7, 8] [] (.first 7 [8] [] (.first 8 [] [] (.done))))))))))] }
def fc136 : FCfg := { par := [.cst false], inn := [(3, some ([1, 2, 3], [1, 2, 3])), (4, some ([1, 2, 3], [1, 2, 3])), (5, some ([1, 2, 3], [1, 2, 3])), (6, some ([2, 3], [2, 3]))], out := [], loopK := [], frz := [], sch := [] }
def fc137 : FCfg := { par := [.cst false, .cst false], inn := [], out := [], loopK := [], frz := [], sch := [] }
def fc138 : FCfg := { par := [.ptr [.imm, .imm, .imm, .imm, .sh, .imm], .mv, .cst false], inn := [(1, some ([0, 1, 5], [0, 1, 5])), (9, some ([0, 1, 5, 7, 8, 33, 34], [0, 1, 5, 8])), (14, some ([0, 1, 5, 7, 8, 33, 34], [0, 1, 5, 8])), (16, some ([0, 1, 5, 33, 34], [0, 1, 5])), (17, some ([], [0]))], out := [(2, some ([], [0])), (9, some ([0, 1, 5, 7, 8, 33, 34], [0, 1, 5, 8])), (10, some ([0, 1, 5, 7, 8, 33, 34, 65], [0, 1, 5, 8])), (14, some ([0, 1, 5, 33, 34, 85], [0, 1, 5]))], loopK := [(5, ([0, 1, 5, 33, 34], [0, 1, 5]))], frz := [], sch := [(2, .first 0 [6, 7, 8, 9, 10, 11, 12, 13, 14] [1, 2, 3, 4, 5] (.first 1 [9, 10, 11, 12, 13, 14] [2, 3, 4, 5, 6, 7, 8] (.first 2 [12, 13, 14] [3, 4, 5, 6, 7, 8, 9, 10, 11] (.first 3 [9, 10, 11, 12, 13, 14] [4, 5, 6, 7, 8] (.first 6 [7, 8, 9, 10, 11, 12, 13, 14] [4, 5] (.first 7 [8, 9, 10, 11, 12, 13, 14] [4, 5] (.fork 4 (.fork 5 (.fork 8 (.first 9 [10, 11, 12, 13, 14] [] (.first 10 [11, 12, 13, 14] [] (.fork 11 (.first 12 [13, 14] [] (.first 13 [14] [] (.fork 14 (.done) (.stop)))) (.stop)))) (.stop)) (.fork 8 (.first 9 [10, 11, 12, 13, 14] [5] (.first 10 [11, 12, 13, 14] [5] (.fork 5 (.fork 11 (.first 12 [13, 14] [] (.first 13 [14] [] (.fork 14 (.done) (.stop)))) (.stop)) (.fork 11 (.first 5 [12, 13, 14] [] (.first 12 [13, 14] [] (.first 13 [14] [] (.fork 14 (.done) (.stop))))) (.stop))))) (.stop))) (.fork 8 (.first 9 [10, 11, 12, 13, 14] [4, 5] (.first 10 [11, 12, 13, 14] [4, 5] (.fork 4 (.fork 5 (.fork 11 (.first 12 [13, 14] [] (.first 13 [14] [] (.fork 14 (.done) (.stop)))) (.stop)) (.fork 11 (.first 5 [12, 13, 14] [] (.first 12 [13, 14] [] (.first 13 [14] [] (.fork 14 (.done) (.stop))))) (.stop))) (.fork 11 (.first 4 [5, 12, 13, 14] [] (.first 5 [12, 13, 14] [] (.first 12 [13, 14] [] (.first 13 [14] [] (.fork 14 (.done) (.stop)))))) (.stop))))) (.stop))))))))), (9, .first 0 [1, 2, 3, 5, 6, 11] [4, 7, 8, 9, 10] (.first 1 [2, 3, 5, 6, 11] [4, 7, 8, 9, 10] (.first 2 [3, 5, 6, 11] [4, 7, 8, 9, 10] (.first 3 [5, 6, 11] [4, 7, 8, 9, 10] (.first 4 [5, 6, 11] [7, 8, 9, 10] (.first 5 [6, 11] [7, 8, 9, 10] (.first 6 [11] [7, 8, 9, 10] (.first 7 [8, 9, 10, 11] [] (.first 8 [9, 10, 11] [] (.first 9 [10, 11] [] (.first 10 [11] [] (.fork 11 (.done) (.stop))))))))))))), (10, .first 0 [1, 2, 3, 4, 5, 6, 7, 8, 9, 10, 11, 12] [] (.first 1 [2, 3, 4, 5, 6, 7, 8, 9, 10, 11, 12] [] (.first 2 [3, 4, 5, 6, 7, 8, 9, 10, 11, 12] [] (.first 3 [4, 5, 6, 7, 8, 9, 10, 11, 12] [] (.first 4 [5, 6, 7, 8, 9, 10, 11, 12] [] (.first 5 [6, 11, 12] [7, 8, 9, 10] (.first 6 [11, 12] [7, 8, 9, 10] (.first 7 [8, 9, 10, 11, 12] [] (.first 8 [9, 10, 11, 12] [] (.first 9 [10, 11, 12] [] (.first 10 [11, 12] [] (.first 11 [12] [] (.first 12 [] [] (.done)))))))))))))), (14, .first 0 [7] [1, 2, 3, 4, 5, 6] (.first 1 [2, 5, 7] [3, 4, 6] (.first 3 [4, 5, 7] [2, 6] (.first 6 [7] [2, 4, 5] (.fork 2 (.fork 4 (.fork 5 (.fork 7 (.done) (.stop)) (.stop)) (.stop)) (.fork 4 (.fork 2 (.fork 5 (.fork 7 (.done) (.stop)) (.stop)) (.stop)) (.stop)))))))] }
def fc139 : FCfg := { par := [.cst false, .cst false], inn := [], out := [], loopK := [], frz := [], sch := [] }
def fc152 : FCfg := { par := [.cst false, .cst false], inn := [], out := [], loopK := [], frz := [], sch := [] }
def fc214 : FCfg := { par := [.cst false, .cst false], inn := [(6, some ([], []))], out := [], loopK := [(2, ([0, 1, 5], []))], frz := [], sch := [] }
def fc216 : FCfg := { par := [.cst false], inn := [], out := [(1, some ([2], []))], loopK := [], frz := [], sch := [(1, .first 0 [1, 2, 3, 4, 5, 6, 7, 8, 9, 10, 11, 12, 13, 14, 15, 16, 17, 18, 19, 20, 21, 22, 23, 24, 25, 26, 27, 28, 29, 30] [] (.first 1 [2, 3, 4, 5, 6, 7, 8, 9, 10, 11, 12, 13, 14, 15, 16, 17, 18, 19, 20, 21, 22, 23, 24, 25, 26, 27, 28, 29, 30] [] (.first 2 [3, 4, 5, 6, 7, 8, 9, 10, 11, 12, 13, 14, 15, 16, 17, 18, 19, 20, 21, 22, 23, 24, 25, 26, 27, 28, 29, 30] [] (.first 3 [4, 5, 6, 7, 8, 9, 10, 11, 12, 13, 14, 15, 16, 17, 18, 19, 20, 21, 22, 23, 24, 25, 26, 27, 28, 29, 30] [] (.fork 4 (.first 5 [6, 7, 8, 9, 10, 11, 12, 13, 14, 15, 16, 17, 18, 19, 20, 21, 22, 23, 24, 25, 26, 27, 28, 29, 30] [] (.first 6 [7, 8, 9, 10, 11, 12, 13, 14, 15, 16, 17, 18, 19, 20, 21, 22, 23, 24, 25, 26, 27, 28, 29, 30] [] (.first 7 [8, 9, 10, 11, 12, 13, 14, 15, 16, 17, 18, 19, 20, 21, 22, 23, 24, 25, 26, 27, 28, 29, 30] [] (.first 8 [9, 10, 11, 12, 13, 14, 15, 16, 17, 18, 19, 20, 21, 22, 23, 24, 25, 26, 27, 28, 29, 30] [] (.first 9 [10, 11, 12, 13, 14, 15, 16, 17, 18, 19, 20, 21, 22, 23, 24, 25, 26, 27, 28, 29, 30] [] (.fork 10 (.first 11 [12, 13, 14, 15, 16, 17, 18, 19, 20, 21, 22, 23, 24, 25, 26, 27, 28, 29, 30] [] (.first 12 [13, 14, 15, 16, 17, 18, 19, 20, 21, 22, 23, 24, 25, 26, 27, 28, 29, 30] [] (.first 13 [14, 15, 16, 21, 22, 23, 24, 25, 26, 27, 28, 29, 30] [17, 18, 19, 20] (.first 14 [15, 16, 21, 22, 23, 24, 25, 26, 27, 28, 29, 30] [17, 18, 19, 20] (.first 15 [16, 21, 22, 23, 24, 25, 26, 27, 28, 29, 30] [17, 18, 19, 20] (.first 16 [21, 22, 23, 24, 25, 26, 27, 28, 29, 30] [17, 18, 19, 20] (.first 17 [18, 19, 20, 21, 22, 23, 24, 25, 26, 27, 28, 29, 30] [] (.first 18 [19, 20, 21, 22, 23, 24, 25, 26, 27, 28, 29, 30] [] (.first 19 [20, 21, 22, 23, 24, 25, 26, 27, 28, 29, 30] [] (.first 20 [21, 22, 23, 24, 25, 26, 27, 28, 29, 30] [] (.fork 21 (.first 22 [23, 24, 25, 26, 27, 28, 29, 30] [] (.first 23 [24, 25, 26, 27, 28, 29, 30] [] (.first 24 [25, 26, 27, 28, 29, 30] [] (.first 25 [26, 27, 28, 29, 30] [] (.first 26 [27, 28, 29, 30] [] (.first 27 [28, 29, 30] [] (.fork 28 (.first 29 [30] [] (.fork 30 (.done) (.stop))) (.stop)))))))) (.stop)))))))))))) (.stop))))))) (.stop))))))] }
def fc217 : FCfg := { par := [.cst false], inn := [(6, some ([3], []))], out := [], loopK := [(3, ([0, 3, 4], []))], frz := [], sch := [] }
def fc218 : FCfg := { par := [.cst false, .cst false, .cst false], inn := [(8, some ([0, 1, 2, 7, 8, 9, 10, 11], [7, 9, 11])), (11, some ([0, 1, 2, 7, 8, 9, 10, 11, 12, 13], [7, 9, 11])), (14, some ([0, 1, 2, 7, 8, 9, 10, 11, 12], [7, 9, 11])), (18, some ([0, 1, 2, 7, 8, 9, 10, 11, 12, 14, 15], [7, 9, 11])), (19, some ([9], [9]))], out := [(12, some ([0, 1, 2, 7, 8, 9, 10, 11, 12, 13, 45], [7, 9, 11])), (14, some ([0, 1, 2, 7, 9, 10, 11, 12, 14], [7, 9, 11])), (15, some ([0, 1, 2, 7, 9, 10, 11, 12, 14, 15], [7, 9, 11]))], loopK := [(5, ([0, 1, 2, 7, 8, 9, 10], [7, 9])), (10, ([0, 1, 2, 7, 8, 9, 10, 11, 12, 13], [7, 9, 11]))], frz := [], sch := [(12, .first 0 [2, 3, 8] [1, 4, 5, 6, 7] (.first 1 [2, 3, 8] [4, 5, 6, 7] (.first 2 [3, 8] [4, 5, 6, 7] (.first 3 [8] [4, 5, 6, 7] (.first 4 [6, 7, 8] [5] (.first 5 [6, 7, 8] [] (.first 6 [7, 8] [] (.first 7 [8] [] (.first 8 [] [] (.done)))))))))), (14, .first 0 [8, 9] [1, 2, 3, 4, 5, 6, 7] (.first 1 [3, 4, 7, 8, 9] [2, 5, 6] (.first 2 [3, 4, 7, 8, 9] [5, 6] (.first 3 [4, 7, 8, 9] [5, 6] (.first 4 [7, 8, 9] [5, 6] (.first 5 [6, 7, 8, 9] [] (.first 6 [7, 8, 9] [] (.first 7 [8, 9] [] (.fork 8 (.fork 9 (.done) (.stop)) (.stop)))))))))), (15, .first 0 [3, 8, 9] [1, 2, 4, 5, 6, 7] (.first 1 [2, 3, 8, 9] [4, 5, 6, 7] (.first 2 [3, 8, 9] [4, 5, 6, 7] (.first 3 [8, 9] [4, 5, 6, 7] (.first 4 [6, 7, 8, 9] [5] (.first 5 [6, 7, 8, 9] [] (.first 6 [7, 8, 9] [] (.first 7 [8, 9] [] (.fork 8 (.fork 9 (.done) (.stop)) (.stop))))))))))] }
def fc219 : FCfg := { par := [.cst false], inn := [(4, some ([0, 3, 4, 5, 6, 7], [4])), (7, some ([0], []))], out := [(4, some ([0, 5, 6, 7, 29], []))], loopK := [(2, ([0, 5, 6, 7], []))], frz := [], sch := [(4, .first 0 [1, 2, 3, 4, 5, 6, 7, 8, 9, 10, 11, 12, 13, 14, 15, 16, 17] [] (.fork 1 (.first 2 [3, 4, 5, 6, 7, 8, 9, 10, 11, 12, 13, 14, 15, 16, 17] [] (.first 3 [4, 5, 6, 7, 8, 9, 10, 11, 12, 13, 14, 15, 16, 17] [] (.first 4 [5, 6, 7, 8, 9, 10, 11, 12, 13, 14, 15, 16, 17] [] (.first 5 [6, 7, 8, 9, 10, 11, 12, 13, 14, 15, 16, 17] [] (.first 6 [7, 8, 9, 10, 11, 12, 13, 14, 15, 16, 17] [] (.first 7 [10, 11, 12, 15, 16, 17] [8, 9, 13, 14] (.first 8 [9, 10, 11, 12, 15, 16, 17] [13, 14] (.first 9 [10, 11, 12, 15, 16, 17] [13, 14] (.first 10 [11, 12, 15, 16, 17] [13, 14] (.first 11 [12, 15, 16, 17] [13, 14] (.first 12 [15, 16, 17] [13, 14] (.first 13 [14, 15, 16, 17] [] (.first 14 [15, 16, 17] [] (.first 15 [16, 17] [] (.first 16 [17] [] (.first 17 [] [] (.done))))))))))))))))) (.stop)))] }
def fc220 : FCfg := { par := [.ptr [.imm, .imm, .imm, .imm, .imm, .imm], .cst false, .cst false], inn := [(7, some ([0, 4, 6, 7, 11, 12], [0, 4, 6])), (8, some ([0, 4, 6, 7], [0, 4, 6])), (11, some ([0, 4, 6, 7, 10], [0, 4, 6, 10])), (12, some ([0, 4, 6, 7, 10], [0, 4, 6, 10])), (13, some ([0, 6, 7, 10], [0, 6, 10]))], out := [(5, some ([0, 4, 6, 7, 8, 11, 12, 27], [0, 4, 6])), (9, some ([0, 4, 6, 7, 9, 10], [0, 4, 6, 10])), (13, some ([0, 6, 10], [0, 6, 10])), (14, some ([6, 10], [0, 6, 10]))], loopK := [(3, ([0, 4, 6, 7, 11, 12], [0, 4, 6]))], frz := [], sch := [(5, .first 0 [2, 3, 4, 5, 12] [1, 6, 7, 8, 9, 10, 11] (.first 1 [4, 5, 12] [2, 3, 6, 7, 8, 9, 10, 11] (.first 2 [3, 4, 5, 12] [6, 7, 8, 9, 10, 11] (.first 3 [4, 5, 12] [6, 7, 8, 9, 10, 11] (.first 4 [5, 12] [6, 7, 8, 9, 10, 11] (.first 5 [12] [6, 7, 8, 9, 10, 11] (.first 6 [8, 9, 10, 11, 12] [7] (.first 7 [10, 11, 12] [8, 9] (.first 8 [9, 10, 11, 12] [] (.first 9 [10, 11, 12] [] (.first 10 [11, 12] [] (.first 11 [12] [] (.first 12 [] [] (.done)))))))))))))), (9, .first 0 [1, 2, 3, 8, 10, 12] [4, 5, 6, 7, 9, 11] (.first 1 [2, 3, 8, 10, 12] [4, 5, 6, 7, 9, 11] (.first 2 [3, 8, 10, 12] [4, 5, 6, 7, 9, 11] (.first 3 [8, 10, 12] [4, 5, 6, 7, 9, 11] (.first 4 [7, 8, 10, 12] [5, 6, 9, 11] (.first 5 [6, 7, 8, 10, 12] [9, 11] (.first 6 [7, 8, 10, 12] [9, 11] (.first 7 [8, 10, 12] [9, 11] (.first 9 [10, 12] [8, 11] (.fork 8 (.fork 10 (.fork 11 (.fork 12 (.done) (.stop)) (.stop)) (.fork 11 (.fork 10 (.fork 12 (.done) (.stop)) (.stop)) (.stop))) (.fork 11 (.fork 8 (.fork 10 (.fork 12 (.done) (.stop)) (.stop)) (.stop)) (.stop)))))))))))), (13, .first 0 [4, 5, 6, 7] [1, 2, 3] (.first 1 [6, 7] [2, 3, 4, 5] (.first 2 [3, 6, 7] [4, 5] (.first 3 [6, 7] [4, 5] (.first 4 [5, 6, 7] [] (.first 5 [6, 7] [] (.first 6 [7] [] (.fork 7 (.done) (.stop))))))))), (14, .first 0 [8, 9, 10] [1, 2, 3, 4, 5, 6, 7] (.first 1 [2, 3, 4, 7, 8, 9, 10] [5, 6] (.first 2 [3, 4, 7, 8, 9, 10] [5, 6] (.first 3 [4, 7, 8, 9, 10] [5, 6] (.first 4 [7, 8, 9, 10] [5, 6] (.first 5 [6, 7, 8, 9, 10] [] (.first 6 [7, 8, 9, 10] [] (.fork 7 (.first 8 [9, 10] [] (.first 9 [10] [] (.fork 10 (.done) (.stop)))) (.stop)))))))))] }
def fc230 : FCfg := { par := [.cst false, .cst false], inn := [(7, some ([], []))], out := [], loopK := [(2, ([0, 1, 7, 8], []))], frz := [], sch := [] }
def fc250 : FCfg := { par := [.cst false], inn := [(8, some ([], []))], out := [(1, some ([0, 21], [])), (6, some ([0, 3, 49], []))], loopK := [(4, ([0, 3], []))], frz := [], sch := [] }
def fc252 : FCfg := { par := [.cst false], inn := [(8, some ([], []))], out := [(1, some ([0, 16], [])), (6, some ([0, 3, 34], []))], loopK := [(4, ([0, 3], []))], frz := [], sch := [] }
def fc258 : FCfg := { par := [.cst false, .cst false], inn := [], out := [], loopK := [], frz := [], sch := [] }
def fc263 : FCfg := { par := [.cst false], inn := [], out := [(1, some ([2], []))], loopK := [], frz := [], sch := [] }
def fc276 : FCfg := { par := [.cst false], inn := [], out := [(1, some ([2], []))], loopK := [], frz := [], sch := [] }
def fc277 : FCfg := { par := [.cst false], inn := [], out := [(1, some ([2], []))], loopK := [], frz := [], sch := [] }
def fcs : List (Nat × FCfg) := [(8, fc8), (27, fc27), (30, fc30), (31, fc31), (53, fc53), (54, fc54), (55, fc55), (56, fc56), (57, fc57), (58, fc58), (92, fc92), (102, fc102), (105, fc105), (108, fc108), (133, fc133), (134, fc134), (135, fc135), (136, fc136), (137, fc137), (138, fc138), (139, fc139), (152, fc152), (214, fc214), (216, fc216), (217, fc217), (218, fc218), (219, fc219), (220, fc220), (230, fc230), (250, fc250), (252, fc252), (258, fc258), (263, fc263), (276, fc276), (277, fc277)]
def ons : List (Nat × Bool) := [(8, true), (27, true), (30, true), (31, true), (53, true), (54, true), (55, true), (56, true), (57, true), (58, true), (92, true), (102, true), (105, true), (108, true), (133, true), (134, true), (135, true), (136, true), (137, true), (138, true), (139, true), (152, true), (214, true), (216, true), (217, true), (218, true), (219, true), (220, true), (230, true), (250, true), (252, true), (258, true), (263, true), (276, true), (277, true)]
def cfg : Cfg := mkCfg ons fcs [(187, some (extCloneN 1 8))]
theorem c8 : cfg.fc 8 = fc8 := rfl
theorem z8 : (cfg.fc 8).frz = [] := rfl
theorem c27 : cfg.fc 27 = fc27 := rfl
theorem z27 : (cfg.fc 27).frz = [] := rfl
theorem c30 : cfg.fc 30 = fc30 := rfl
theorem z30 : (cfg.fc 30).frz = [] := rfl
theorem c31 : cfg.fc 31 = fc31 := rfl
theorem z31 : (cfg.fc 31).frz = [] := rfl
theorem c53 : cfg.fc 53 = fc53 := rfl
theorem z53 : (cfg.fc 53).frz = [] := rfl
theorem c54 : cfg.fc 54 = fc54 := rfl
theorem z54 : (cfg.fc 54).frz = [] := rfl
theorem c55 : cfg.fc 55 = fc55 := rfl
theorem z55 : (cfg.fc 55).frz = [] := rfl
theorem c56 : cfg.fc 56 = fc56 := rfl
theorem z56 : (cfg.fc 56).frz = [] := rfl
theorem c57 : cfg.fc 57 = fc57 := rfl
theorem z57 : (cfg.fc 57).frz = [] := rfl
theorem c58 : cfg.fc 58 = fc58 := rfl
theorem z58 : (cfg.fc 58).frz = [] := rfl
theorem c92 : cfg.fc 92 = fc92 := rfl
theorem z92 : (cfg.fc 92).frz = [] := rfl
theorem c102 : cfg.fc 102 = fc102 := rfl
theorem z102 : (cfg.fc 102).frz = [] := rfl
theorem c105 : cfg.fc 105 = fc105 := rfl
theorem z105 : (cfg.fc 105).frz = [] := rfl
theorem c108 : cfg.fc 108 = fc108 := rfl
theorem z108 : (cfg.fc 108).frz = [] := rfl
theorem c133 : cfg.fc 133 = fc133 := rfl
theorem z133 : (cfg.fc 133).frz = [] := rfl
theorem c134 : cfg.fc 134 = fc134 := rfl
theorem z134 : (cfg.fc 134).frz = [] := rfl
theorem c135 : cfg.fc 135 = fc135 := rfl
theorem z135 : (cfg.fc 135).frz = [] := rfl
theorem c136 : cfg.fc 136 = fc136 := rfl
theorem z136 : (cfg.fc 136).frz = [] := rfl
theorem c137 : cfg.fc 137 = fc137 := rfl
theorem z137 : (cfg.fc 137).frz = [] := rfl
theorem c138 : cfg.fc 138 = fc138 := rfl
theorem z138 : (cfg.fc 138).frz = [] := rfl
theorem c139 : cfg.fc 139 = fc139 := rfl
theorem z139 : (cfg.fc 139).frz = [] := rfl
theorem c152 : cfg.fc 152 = fc152 := rfl
theorem z152 : (cfg.fc 152).frz = [] := rfl
theorem c214 : cfg.fc 214 = fc214 := rfl
theorem z214 : (cfg.fc 214).frz = [] := rfl
theorem c216 : cfg.fc 216 = fc216 := rfl
theorem z216 : (cfg.fc 216).frz = [] := rfl
theorem c217 : cfg.fc 217 = fc217 := rfl
theorem z217 : (cfg.fc 217).frz = [] := rfl
theorem c218 : cfg.fc 218 = fc218 := rfl
theorem z218 : (cfg.fc 218).frz = [] := rfl
theorem c219 : cfg.fc 219 = fc219 := rfl
theorem z219 : (cfg.fc 219).frz = [] := rfl
theorem c220 : cfg.fc 220 = fc220 := rfl
theorem z220 : (cfg.fc 220).frz = [] := rfl
theorem c230 : cfg.fc 230 = fc230 := rfl
theorem z230 : (cfg.fc 230).frz = [] := rfl
theorem c250 : cfg.fc 250 = fc250 := rfl
theorem z250 : (cfg.fc 250).frz = [] := rfl
theorem c252 : cfg.fc 252 = fc252 := rfl
theorem z252 : (cfg.fc 252).frz = [] := rfl
theorem c258 : cfg.fc 258 = fc258 := rfl
theorem z258 : (cfg.fc 258).frz = [] := rfl
theorem c263 : cfg.fc 263 = fc263 := rfl
theorem z263 : (cfg.fc 263).frz = [] := rfl
theorem c276 : cfg.fc 276 = fc276 := rfl
theorem z276 : (cfg.fc 276).frz = [] := rfl
theorem c277 : cfg.fc 277 = fc277 := rfl
theorem z277 : (cfg.fc 277).frz = [] := rfl
theorem bF208 : buildF Try.prog 208 = some ([.nil, .im 0 (.sc (.int .i64 0)), .nil, .nil, .im 0 (.sc (.int .i64 0)), .im 0 (.sc (.int .i64 0)), .im 0 (.sc (.int .i64 0)), .im 0 (.sc (.bool false))], [(0, 1), (1, 1), (2, 1), (3, 1), (4, 1), (5, 1), (6, 1), (7, 1)]) := by kernel_rfl
theorem bF214 : buildF Try.prog 214 = some ([.nil, .im 0 (.sc (.int .i64 0)), .im 0 (.sc (.int .i64 0)), .im 0 (.sc (.bool false)), .nil, .im 0 (.sc (.int .i64 0))], [(0, 1), (1, 1), (2, 1), (3, 1), (4, 1), (5, 1)]) := by kernel_rfl
theorem bF218 : buildF Try.prog 218 = some ([.im 0 (.sc (.int .i64 0)), .im 0 (.sc (.int .i64 0)), .im 0 (.sc (.int .i64 0)), .im 0 (.sc (.int .i64 0)), .im 0 (.sc (.int .i64 0)), .im 0 (.sc (.int .i64 0))], [(0, 1), (1, 4), (5, 1)]) := by kernel_rfl
theorem bF279 : buildF Try.prog 279 = some ([.im 0 (.sc (.int .i64 0)), .im 0 (.sc (.int .i64 0)), .im 0 (.sc (.int .i64 0)), .im 0 (.sc (.int .i64 0))], [(0, 1), (1, 1), (2, 1), (3, 1)]) := by kernel_rfl
theorem eF27 : elemSz Try.prog 27 = some (2, 1) := by kernel_rfl
theorem eF298 : elemSz Try.prog 298 = some (27, 1) := by kernel_rfl
theorem eF81 : elemSz Try.prog 81 = some (209, 4) := by kernel_rfl
theorem fF204_0 : fieldF Try.prog 204 0 = some 0 := by kernel_rfl
theorem fF204_1 : fieldF Try.prog 204 1 = some 1 := by kernel_rfl
theorem fF204_2 : fieldF Try.prog 204 2 = some 2 := by kernel_rfl
theorem fF204_3 : fieldF Try.prog 204 3 = some 3 := by kernel_rfl
theorem fF208_0 : fieldF Try.prog 208 0 = some 0 := by kernel_rfl
theorem fF208_1 : fieldF Try.prog 208 1 = some 1 := by kernel_rfl
theorem fF208_2 : fieldF Try.prog 208 2 = some 2 := by kernel_rfl
theorem fF208_3 : fieldF Try.prog 208 3 = some 3 := by kernel_rfl
theorem fF208_4 : fieldF Try.prog 208 4 = some 4 := by kernel_rfl
theorem fF208_5 : fieldF Try.prog 208 5 = some 5 := by kernel_rfl
theorem fF208_6 : fieldF Try.prog 208 6 = some 6 := by kernel_rfl
theorem fF208_7 : fieldF Try.prog 208 7 = some 7 := by kernel_rfl
theorem fF209_0 : fieldF Try.prog 209 0 = some 0 := by kernel_rfl
theorem fF209_1 : fieldF Try.prog 209 1 = some 1 := by kernel_rfl
theorem fF209_2 : fieldF Try.prog 209 2 = some 2 := by kernel_rfl
theorem fF209_3 : fieldF Try.prog 209 3 = some 3 := by kernel_rfl
theorem fF214_0 : fieldF Try.prog 214 0 = some 0 := by kernel_rfl
theorem fF214_1 : fieldF Try.prog 214 1 = some 1 := by kernel_rfl
theorem fF214_2 : fieldF Try.prog 214 2 = some 2 := by kernel_rfl
theorem fF214_3 : fieldF Try.prog 214 3 = some 3 := by kernel_rfl
theorem fF214_4 : fieldF Try.prog 214 4 = some 4 := by kernel_rfl
theorem fF214_5 : fieldF Try.prog 214 5 = some 5 := by kernel_rfl
theorem fF218_0 : fieldF Try.prog 218 0 = some 0 := by kernel_rfl
theorem fF218_1 : fieldF Try.prog 218 1 = some 1 := by kernel_rfl
theorem fF218_2 : fieldF Try.prog 218 2 = some 5 := by kernel_rfl
theorem fF279_0 : fieldF Try.prog 279 0 = some 0 := by kernel_rfl
theorem fF279_2 : fieldF Try.prog 279 2 = some 2 := by kernel_rfl
theorem fF279_3 : fieldF Try.prog 279 3 = some 3 := by kernel_rfl
theorem kF102_2_2_2 : callK Try.prog cfg 102 0 [2, 2, 2] = [(.cst false, [none]), (.cst false, [none]), (.cst false, [none])] := by kernel_rfl
theorem kF105_27 : callK Try.prog cfg 105 0 [27] = [(.cst false, [some 1])] := by kernel_rfl
theorem kF108_3 : callK Try.prog cfg 108 0 [3] = [(.cst false, [none])] := by kernel_rfl
theorem kF133_204_3 : callK Try.prog cfg 133 0 [204, 3] = [(.cst false, [none, none, none, none]), (.cst false, [none])] := by kernel_rfl
theorem kF134_81 : callK Try.prog cfg 134 0 [81] = [(.cst false, [some 4])] := by kernel_rfl
theorem kF135_206 : callK Try.prog cfg 135 0 [206] = [(.ptr [.imm, .imm, .sh, .sh, .imm, .imm, .imm, .imm], [none])] := by kernel_rfl
theorem kF136_204 : callK Try.prog cfg 136 0 [204] = [(.cst false, [none, none, none, none])] := by kernel_rfl
theorem kF137_81_2 : callK Try.prog cfg 137 0 [81, 2] = [(.cst false, [some 4]), (.cst false, [none])] := by kernel_rfl
theorem kF138_212_27_218 : callK Try.prog cfg 138 0 [212, 27, 218] = [(.ptr [.imm, .imm, .imm, .imm, .sh, .imm], [none]), (.mv, [some 1]), (.cst false, [none, none, none, none, none, none])] := by kernel_rfl
theorem kF139_209_209 : callK Try.prog cfg 139 0 [209, 209] = [(.cst false, [none, none, none, none]), (.cst false, [none, none, none, none])] := by kernel_rfl
theorem kF152_27_2 : callK Try.prog cfg 152 0 [27, 2] = [(.cst false, [some 1]), (.cst false, [none])] := by kernel_rfl
theorem kF187_27 : callK Try.prog cfg 187 0 [27] = [(.cst false, [some 1])] := by kernel_rfl
theorem kF214_27_2 : callK Try.prog cfg 214 0 [27, 2] = [(.cst false, [some 1]), (.cst false, [none])] := by kernel_rfl
theorem kF216_311 : callK Try.prog cfg 216 0 [311] = [(.cst false, [none])] := by kernel_rfl
theorem kF217_298 : callK Try.prog cfg 217 0 [298] = [(.cst false, [some 1])] := by kernel_rfl
theorem kF218_81_27_2 : callK Try.prog cfg 218 0 [81, 27, 2] = [(.cst false, [some 4]), (.cst false, [some 1]), (.cst false, [none])] := by kernel_rfl
theorem kF219_81 : callK Try.prog cfg 219 0 [81] = [(.cst false, [some 4])] := by kernel_rfl
theorem kF220_218_209_2 : callK Try.prog cfg 220 0 [218, 209, 2] = [(.ptr [.imm, .imm, .imm, .imm, .imm, .imm], [none, none, none, none, none, none]), (.cst false, [none, none, none, none]), (.cst false, [none])] := by kernel_rfl
theorem kF230_27_2 : callK Try.prog cfg 230 0 [27, 2] = [(.cst false, [some 1]), (.cst false, [none])] := by kernel_rfl
theorem kF250_9 : callK Try.prog cfg 250 0 [9] = [(.cst false, [none])] := by kernel_rfl
theorem kF252_9 : callK Try.prog cfg 252 0 [9] = [(.cst false, [none])] := by kernel_rfl
theorem kF258_2_2 : callK Try.prog cfg 258 0 [2, 2] = [(.cst false, [none]), (.cst false, [none])] := by kernel_rfl
theorem kF263_209 : callK Try.prog cfg 263 0 [209] = [(.cst false, [none, none, none, none])] := by kernel_rfl
theorem kF276_5 : callK Try.prog cfg 276 0 [5] = [(.cst false, [none])] := by kernel_rfl
theorem kF277_5 : callK Try.prog cfg 277 0 [5] = [(.cst false, [none])] := by kernel_rfl
theorem kF27_27_27 : callK Try.prog cfg 27 0 [27, 27] = [(.cst false, [some 1]), (.cst false, [some 1])] := by kernel_rfl
theorem kF30_27_3 : callK Try.prog cfg 30 0 [27, 3] = [(.row, [some 1]), (.cst false, [none])] := by kernel_rfl
theorem kF31_27_3 : callK Try.prog cfg 31 0 [27, 3] = [(.cst false, [some 1]), (.cst false, [none])] := by kernel_rfl
theorem kF53_78_3 : callK Try.prog cfg 53 0 [78, 3] = [(.cst false, [some 4]), (.cst false, [none])] := by kernel_rfl
theorem kF54_81_2_2 : callK Try.prog cfg 54 0 [81, 2, 2] = [(.cst false, [some 4]), (.cst false, [none]), (.cst false, [none])] := by kernel_rfl
theorem kF55_78 : callK Try.prog cfg 55 0 [78] = [(.cst false, [some 4])] := by kernel_rfl
theorem kF56_81_2_2 : callK Try.prog cfg 56 0 [81, 2, 2] = [(.cst false, [some 4]), (.cst false, [none]), (.cst false, [none])] := by kernel_rfl
theorem kF57_81_81 : callK Try.prog cfg 57 0 [81, 81] = [(.cst false, [some 4]), (.cst false, [some 4])] := by kernel_rfl
theorem kF58_81_3 : callK Try.prog cfg 58 0 [81, 3] = [(.row, [some 4]), (.cst false, [none])] := by kernel_rfl
theorem kF92_2_2_2 : callK Try.prog cfg 92 0 [2, 2, 2] = [(.cst false, [none]), (.cst false, [none]), (.cst false, [none])] := by kernel_rfl
theorem rF102 : resK Try.prog (Try.f102.results.toList.zip Try.f102.resultTypes.toList) = [(.tmp 6, [none], none)] := by kernel_rfl
theorem rF105 : resK Try.prog (Try.f105.results.toList.zip Try.f105.resultTypes.toList) = [(.tmp 2, [some 1], none)] := by kernel_rfl
theorem rF108 : resK Try.prog (Try.f108.results.toList.zip Try.f108.resultTypes.toList) = [(.tmp 2, [none], none)] := by kernel_rfl
theorem rF133 : resK Try.prog (Try.f133.results.toList.zip Try.f133.resultTypes.toList) = [(.tmp 4, [none], none)] := by kernel_rfl
theorem rF134 : resK Try.prog (Try.f134.results.toList.zip Try.f134.resultTypes.toList) = [(.tmp 2, [none], none)] := by kernel_rfl
theorem rF135 : resK Try.prog (Try.f135.results.toList.zip Try.f135.resultTypes.toList) = [] := by kernel_rfl
theorem rF136 : resK Try.prog (Try.f136.results.toList.zip Try.f136.resultTypes.toList) = [(.cell 2 209, [none, none, none, none], some (true, 4))] := by kernel_rfl
theorem rF137 : resK Try.prog (Try.f137.results.toList.zip Try.f137.resultTypes.toList) = [(.tmp 4, [none], none)] := by kernel_rfl
theorem rF138 : resK Try.prog (Try.f138.results.toList.zip Try.f138.resultTypes.toList) = [(.tmp 6, [none], none)] := by kernel_rfl
theorem rF139 : resK Try.prog (Try.f139.results.toList.zip Try.f139.resultTypes.toList) = [(.tmp 4, [none], none)] := by kernel_rfl
theorem rF152 : resK Try.prog (Try.f152.results.toList.zip Try.f152.resultTypes.toList) = [(.tmp 4, [none], none)] := by kernel_rfl
theorem rF187 : resK Try.prog (Try.f187.results.toList.zip Try.f187.resultTypes.toList) = [(.tmp 2, [some 1], none)] := by kernel_rfl
theorem rF214 : resK Try.prog (Try.f214.results.toList.zip Try.f214.resultTypes.toList) = [(.tmp 4, [none], none)] := by kernel_rfl
theorem rF216 : resK Try.prog (Try.f216.results.toList.zip Try.f216.resultTypes.toList) = [(.tmp 2, [none], none)] := by kernel_rfl
theorem rF217 : resK Try.prog (Try.f217.results.toList.zip Try.f217.resultTypes.toList) = [(.tmp 2, [none], none)] := by kernel_rfl
theorem rF218 : resK Try.prog (Try.f218.results.toList.zip Try.f218.resultTypes.toList) = [(.tmp 6, [some 1], none)] := by kernel_rfl
theorem rF219 : resK Try.prog (Try.f219.results.toList.zip Try.f219.resultTypes.toList) = [(.tmp 2, [none], none)] := by kernel_rfl
theorem rF220 : resK Try.prog (Try.f220.results.toList.zip Try.f220.resultTypes.toList) = [(.cell 6 279, [none, none, none, none], some (true, 4))] := by kernel_rfl
theorem rF230 : resK Try.prog (Try.f230.results.toList.zip Try.f230.resultTypes.toList) = [(.tmp 4, [none], none)] := by kernel_rfl
theorem rF250 : resK Try.prog (Try.f250.results.toList.zip Try.f250.resultTypes.toList) = [(.tmp 2, [none], none)] := by kernel_rfl
theorem rF252 : resK Try.prog (Try.f252.results.toList.zip Try.f252.resultTypes.toList) = [(.tmp 2, [none], none)] := by kernel_rfl
theorem rF258 : resK Try.prog (Try.f258.results.toList.zip Try.f258.resultTypes.toList) = [(.tmp 4, [none], none)] := by kernel_rfl
theorem rF263 : resK Try.prog (Try.f263.results.toList.zip Try.f263.resultTypes.toList) = [(.tmp 2, [none], none)] := by kernel_rfl
theorem rF27 : resK Try.prog (Try.f27.results.toList.zip Try.f27.resultTypes.toList) = [(.tmp 4, [none], none)] := by kernel_rfl
theorem rF276 : resK Try.prog (Try.f276.results.toList.zip Try.f276.resultTypes.toList) = [(.tmp 2, [none], none)] := by kernel_rfl
theorem rF277 : resK Try.prog (Try.f277.results.toList.zip Try.f277.resultTypes.toList) = [(.tmp 2, [none], none)] := by kernel_rfl
theorem rF30 : resK Try.prog (Try.f30.results.toList.zip Try.f30.resultTypes.toList) = [(.tmp 4, [none], none)] := by kernel_rfl
theorem rF31 : resK Try.prog (Try.f31.results.toList.zip Try.f31.resultTypes.toList) = [(.tmp 4, [none], none)] := by kernel_rfl
theorem rF53 : resK Try.prog (Try.f53.results.toList.zip Try.f53.resultTypes.toList) = [(.tmp 4, [none], none)] := by kernel_rfl
theorem rF54 : resK Try.prog (Try.f54.results.toList.zip Try.f54.resultTypes.toList) = [(.tmp 6, [some 1], none), (.tmp 7, [none], none), (.tmp 8, [none], none)] := by kernel_rfl
theorem rF55 : resK Try.prog (Try.f55.results.toList.zip Try.f55.resultTypes.toList) = [(.tmp 2, [some 4], none)] := by kernel_rfl
theorem rF56 : resK Try.prog (Try.f56.results.toList.zip Try.f56.resultTypes.toList) = [(.tmp 6, [some 1], none), (.tmp 7, [none], none), (.tmp 8, [none], none)] := by kernel_rfl
theorem rF57 : resK Try.prog (Try.f57.results.toList.zip Try.f57.resultTypes.toList) = [(.tmp 4, [none], none)] := by kernel_rfl
theorem rF58 : resK Try.prog (Try.f58.results.toList.zip Try.f58.resultTypes.toList) = [(.tmp 4, [none], none)] := by kernel_rfl
theorem rF8 : resK Try.prog (Try.f8.results.toList.zip Try.f8.resultTypes.toList) = [(.tmp 6, [none], none)] := by kernel_rfl
theorem rF92 : resK Try.prog (Try.f92.results.toList.zip Try.f92.resultTypes.toList) = [(.tmp 6, [none], none)] := by kernel_rfl
theorem sF22 : sliceF Try.prog 22 = some (5, 1, [none], false, 1, [.im 0 (.sc (.int .u8 0))]) := by kernel_rfl
theorem sF27 : sliceF Try.prog 27 = some (2, 1, [none], false, 8, [.im 0 (.sc (.int .i64 0))]) := by kernel_rfl
theorem sF298 : sliceF Try.prog 298 = some (27, 1, [some 1], false, 24, [.nil]) := by kernel_rfl
theorem sF78 : sliceF Try.prog 78 = some (204, 4, [none, none, none, none], true, 40, [.im 0 (.sc (.string ⟨#[]⟩)), .im 0 (.sc (.int .i64 0)), .im 0 (.sc (.int .i64 0)), .im 0 (.sc (.int .i64 0))]) := by kernel_rfl
theorem sF81 : sliceF Try.prog 81 = some (209, 4, [none, none, none, none], true, 40, [.im 0 (.sc (.string ⟨#[]⟩)), .im 0 (.sc (.int .i64 0)), .im 0 (.sc (.int .i64 0)), .im 0 (.sc (.int .i64 0))]) := by kernel_rfl
theorem tF2 : tyF Try.prog 2 = some ([.im 0 (.sc (.int .i64 0))], [none], false, 1) := by kernel_rfl
theorem tF204 : tyF Try.prog 204 = some ([.im 0 (.sc (.string ⟨#[]⟩)), .im 0 (.sc (.int .i64 0)), .im 0 (.sc (.int .i64 0)), .im 0 (.sc (.int .i64 0))], [none, none, none, none], true, 4) := by kernel_rfl
theorem tF208 : tyF Try.prog 208 = some ([.nil, .im 0 (.sc (.int .i64 0)), .nil, .nil, .im 0 (.sc (.int .i64 0)), .im 0 (.sc (.int .i64 0)), .im 0 (.sc (.int .i64 0)), .im 0 (.sc (.bool false))], [some 4, none, some 1, some 1, none, none, none, none], true, 8) := by kernel_rfl
theorem tF209 : tyF Try.prog 209 = some ([.im 0 (.sc (.string ⟨#[]⟩)), .im 0 (.sc (.int .i64 0)), .im 0 (.sc (.int .i64 0)), .im 0 (.sc (.int .i64 0))], [none, none, none, none], true, 4) := by kernel_rfl
theorem tF214 : tyF Try.prog 214 = some ([.nil, .im 0 (.sc (.int .i64 0)), .im 0 (.sc (.int .i64 0)), .im 0 (.sc (.bool false)), .nil, .im 0 (.sc (.int .i64 0))], [some 4, none, none, none, some 1, none], true, 6) := by kernel_rfl
theorem tF218 : tyF Try.prog 218 = some ([.im 0 (.sc (.int .i64 0)), .im 0 (.sc (.int .i64 0)), .im 0 (.sc (.int .i64 0)), .im 0 (.sc (.int .i64 0)), .im 0 (.sc (.int .i64 0)), .im 0 (.sc (.int .i64 0))], [none, none, none, none, none, none], true, 6) := by kernel_rfl
theorem tF27 : tyF Try.prog 27 = some ([.nil], [some 1], false, 1) := by kernel_rfl
theorem tF279 : tyF Try.prog 279 = some ([.im 0 (.sc (.int .i64 0)), .im 0 (.sc (.int .i64 0)), .im 0 (.sc (.int .i64 0)), .im 0 (.sc (.int .i64 0))], [none, none, none, none], true, 4) := by kernel_rfl
theorem tF4 : tyF Try.prog 4 = some ([.im 0 (.sc (.bool false))], [none], false, 1) := by kernel_rfl
theorem tF81 : tyF Try.prog 81 = some ([.nil], [some 4], false, 1) := by kernel_rfl
theorem tF9 : tyF Try.prog 9 = some ([.im 0 (.sc (.string ⟨#[]⟩))], [none], false, 1) := by kernel_rfl
theorem uF216 : Try.prog.underlying 216 = some (.array 4 2) := by kernel_rfl
theorem uF22 : Try.prog.underlying 22 = some (.slice 5) := by kernel_rfl
theorem uF27 : Try.prog.underlying 27 = some (.slice 2) := by kernel_rfl
theorem uF298 : Try.prog.underlying 298 = some (.slice 27) := by kernel_rfl
theorem uF3 : Try.prog.underlying 3 = some (.int .i64) := by kernel_rfl
theorem uF5 : Try.prog.underlying 5 = some (.int .u8) := by kernel_rfl
theorem uF78 : Try.prog.underlying 78 = some (.slice 204) := by kernel_rfl
theorem uF81 : Try.prog.underlying 81 = some (.slice 209) := by kernel_rfl
theorem uF9 : Try.prog.underlying 9 = some .string := by kernel_rfl
theorem zF2 : (Try.prog.info? 2).map (·.size) = some 1 := by kernel_rfl

theorem L_laws_szBond {a_0 : S_Bond} {left_1 : Int} {r : Int} (h : laws_szBond a_0 left_1 = some r) : FL Try.prog cfg 133 [.im 2 true [.sc (.string a_0.Name), .sc (.int .i64 a_0.Spread), .sc (.int .i64 a_0.Open), .sc (.int .i64 a_0.Press)], .im 2 false [.sc (.int .i64 left_1)]] = some ([(false, [.im 0 (.sc (.int .i64 r))])], []) := by
  unfold laws_szBond at h
  refine FL_goS (A := [(0, .v true [.im 2 (.sc (.string a_0.Name)), .im 2 (.sc (.int .i64 a_0.Spread)), .im 2 (.sc (.int .i64 a_0.Open)), .im 2 (.sc (.int .i64 a_0.Press))]), (1, .v false [.im 2 (.sc (.int .i64 left_1))])]) (B := [(0, none), (1, none)]) (nt := 13) rfl rfl Try.func133 rfl rfl rfl rfl ?_
  refine Go.seq ?_
  refine Go.r0 c133 rfl rfl (sq z133 (oBx rfl tF204 rfl (tkI (tkI (tkI (tkI tk0))))) <| sq z133 (oAsI rfl rfl) <| nl) ?_
  refine Unw.seq ?_
  refine Go.seq ?_
  refine Go.r0 c133 rfl rfl (sq z133 (oMv rfl rfl) <| sq z133 (oFA (r' := .mp 2 0 0) rfl fF204_0 rfl rfl) <| sq z133 (oLd (cs := [.im 0 _]) rfl tF9 rfl rfl) <| sq z133 (oLnS rfl rfl uF9 rfl) <| sq z133 (oBi rfl rfl rfl rfl) <| sq z133 (oAsI rfl rfl) <| nl) ?_
  refine Unw.seq ?_
  refine Go.seq ?_
  refine Go.seq ?_
  refine Go.r0 c133 rfl rfl (sq z133 (oMv rfl rfl) <| sq z133 (oBi rfl rfl rfl rfl) <| nl) ?_
  refine Unw.seq ?_
  by_cases hc1 : (w64 (left_1 - (a_0.Name.size : Int))) < 0
  · rw [if_pos hc1] at h
    refine Go.condT rfl (iDec.2 hc1) ?_
    refine Go.seq ?_
    refine Go.r0 c133 rfl rfl (sq z133 (oAsI rfl rfl) <| nl) ?_
    refine Unw.seq ?_
    refine Go.ret (Unw.ret ?_)
    cases h
    exact Fin_ret (fin_of rfl rF133 rfl (by kernel_rfl))
  · rw [if_neg hc1] at h
    refine Go.condF rfl (byF iDec hc1) ?_
    refine Go.skip ?_
    refine Unw.seq ?_
    refine Go.seq ?_
    refine Go.r0 c133 rfl rfl (sq z133 (oMv rfl rfl) <| sq z133 (oAsI rfl rfl) <| nl) ?_
    refine Unw.seq ?_
    refine Go.ret (Unw.ret ?_)
    cases h
    exact Fin_ret (fin_of rfl rF133 rfl (by kernel_rfl))
theorem L_laws_szBondS {a_0 : (List S_Bond)} {left_1 : Int} {r : Int} (h : laws_szBondS a_0 left_1 = some r) : FL Try.prog cfg 53 [.im 2 false [.row 4 (List.map e_S_Bond a_0)], .im 2 false [.sc (.int .i64 left_1)]] = some ([(false, [.im 0 (.sc (.int .i64 r))])], []) := by
  unfold laws_szBondS at h
  refine FL_goS (A := [(0, .v false [.im 2 (.row 4 (List.map e_S_Bond a_0))]), (1, .v false [.im 2 (.sc (.int .i64 left_1))])]) (B := [(0, none), (1, none)]) (nt := 27) rfl rfl Try.func53 rfl rfl rfl rfl ?_
  refine Go.seq ?_
  refine Go.r0 c53 rfl rfl (sq z53 (oAsI rfl rfl) <| nl) ?_
  refine Unw.seq ?_
  refine Go.seq ?_
  refine Go.r0 c53 rfl rfl (sq z53 (oMv rfl rfl) <| sq z53 (oMv rfl rfl) <| sq z53 (oLnI rfl rfl uF78 rfl) <| sq z53 (oBi rfl rfl rfl rfl) <| sq z53 (oAsI rfl rfl) <| nl) ?_
  refine Unw.seq ?_
  refine Go.seq ?_
  refine Go.seq ?_
  refine Go.r0 c53 rfl rfl (sq z53 (oMv rfl rfl) <| sq z53 (oBi rfl rfl rfl rfl) <| nl) ?_
  refine Unw.seq ?_
  by_cases hc1 : (w64 (left_1 - (a_0.length : Int))) < 0
  · rw [if_pos hc1] at h
    refine Go.condT rfl (iDec.2 hc1) ?_
    refine Go.seq ?_
    refine Go.r0 c53 rfl rfl (sq z53 (oAsI rfl rfl) <| nl) ?_
    refine Unw.seq ?_
    refine Go.ret (Unw.ret ?_)
    cases h
    exact Fin_ret (fin_of rfl rF53 rfl (by kernel_rfl))
  · rw [if_neg hc1] at h
    refine Go.condF rfl (byF iDec hc1) ?_
    refine Go.skip ?_
    refine Unw.seq ?_
    refine Go.seq ?_
    refine Go.seq ?_
    refine Go.r0 c53 rfl rfl (sq z53 (oAsI rfl rfl) <| nl) ?_
    refine Unw.seq ?_
    refine Go.block ?_
    obtain ⟨o, hl, h⟩ := bs h
    refine Go.lp c53 rfl _ (fun (s : (Int × Int)) => match s with | (left_1_l5, i_5_l5) => mk [(0, .v false [.im 2 (.row 4 (List.map e_S_Bond a_0))]), (1, iv left_1_l5), (5, iv i_5_l5)] []) (fun (o : (Int ⊕ Int)) (p : Ex × St) => match o with | (.inl left_1_e0_5) => p.1 = .exit 0 ∧ p.2.norm ([1], []) = mk [(1, iv left_1_e0_5)] [] | (.inr r2) => p.1 = .ret ∧ fin Try.prog cfg 53 Try.f53 [.im 2 false [.row 4 (List.map e_S_Bond a_0)], .im 2 false [.sc (.int .i64 left_1)]] p.2 = some ([(false, [.im 0 (.sc (.int .i64 r2))])], [])) hl (by kernel_rfl) ?_ ?_ ?_
    · intro o p hp e
      rcases o with left_1_e0_5 | r2 <;> exact nomatch (hp.1.symm.trans e)
    · rintro ⟨left_1_l5, i_5_l5⟩ o h
      unfold laws_szBondS_l5 at h
      dsimp only at h
      refine Go.seq ?_
      refine Go.seq ?_
      refine Go.r0 c53 rfl rfl (sq z53 (oMv rfl rfl) <| sq z53 (oMv rfl rfl) <| sq z53 (oLnI rfl rfl uF78 rfl) <| sq z53 (oBi rfl rfl rfl rfl) <| nl) ?_
      refine Unw.seq ?_
      by_cases hc6 : i_5_l5 < (a_0.length : Int)
      · rw [if_pos hc6] at h
        refine Go.condT rfl (iDec.2 hc6) ?_
        refine Go.skip ?_
        refine Unw.seq ?_
        refine Go.seq ?_
        refine Go.block ?_
        refine Go.seq ?_
        obtain ⟨x20, hx20, h⟩ := bs h
        obtain ⟨x23, hx23, h⟩ := bs h
        refine Go.r0 c53 rfl rfl (sq z53 (oMv rfl rfl) <| sq z53 (oMv rfl rfl) <| sq z53 (oIAI rfl hx20 sF78 rfl rfl) <| sq z53 (oLd (cs := [.im 2 _, .im 2 _, .im 2 _, .im 2 _]) rfl tF204 rfl rfl) <| sq z53 (oMv rfl rfl) <| sq z53 (oCa (xs := [.v true [.im 2 _, .im 2 _, .im 2 _, .im 2 _], .v false [.im 0 _]]) (vs := [(false, [.im 0 _])]) (v := .v false [.im 0 _]) (L_laws_szBond hx23) (.inl rfl) rfl kF133_204_3 rfl (ppC rfl (ppC rfl pp0)) rfl rfl pb0 rfl rfl rfl) <| sq z53 (oAsI rfl rfl) <| nl) ?_
        refine Unw.seq ?_
        refine Go.seq ?_
        refine Go.r0 c53 rfl rfl (sq z53 (oMv rfl rfl) <| sq z53 (oBi rfl rfl rfl rfl) <| nl) ?_
        refine Unw.seq ?_
        by_cases hc7 : x23 < 0
        · rw [if_pos hc7] at h
          refine Go.condT rfl (iDec.2 hc7) ?_
          refine Go.seq ?_
          refine Go.r0 c53 rfl rfl (sq z53 (oAsI rfl rfl) <| nl) ?_
          refine Unw.seq ?_
          refine Go.ret (Unw.ret ?_)
          cases h
          exact ⟨rfl, (fin_of rfl rF53 rfl (by kernel_rfl))⟩
        · rw [if_neg hc7] at h
          refine Go.condF rfl (byF iDec hc7) ?_
          refine Go.skip ?_
          refine Unw.blk ?_
          refine Unw.seq ?_
          refine Go.r0 c53 rfl rfl (sq z53 (oMv rfl rfl) <| sq z53 (oBi rfl rfl rfl rfl) <| sq z53 (oAsI rfl rfl) <| nl) ?_
          refine Unw.nil ?_
          cases h
          exact ⟨rfl, (by kernel_rfl)⟩
      · rw [if_neg hc6] at h
        refine Go.condF rfl (byF iDec hc6) ?_
        refine Go.exit ?_
        refine Unw.seqx ?_
        refine Unw.nil ?_
        cases h
        exact ⟨rfl, (by kernel_rfl)⟩
    · rintro ⟨e, st⟩ hp
      rcases o with left_1_e0_5 | r2
      · dsimp only at h
        obtain ⟨he, hst⟩ := hp
        obtain rfl : e = .exit 0 := he
        refine Unw.blkx ?_
        refine Unw.seq ?_
        refine Go.seq ?_
        refine Go.r1 c53 rfl rfl hst (sq z53 (oMv rfl rfl) <| sq z53 (oAsI rfl rfl) <| nl) ?_
        refine Unw.seq ?_
        refine Go.ret (Unw.ret ?_)
        cases h
        exact Fin_ret (fin_of rfl rF53 rfl (by kernel_rfl))
      · dsimp only at h
        obtain ⟨he, hfin⟩ := hp
        obtain rfl : e = .ret := he
        cases h
        exact Unw.ret (Fin_ret hfin)
theorem L_laws_toBond {a_0 : S_Bond} {r : S_Bond} (h : laws_toBond a_0 = some r) : FL Try.prog cfg 136 [.im 2 true [.sc (.string a_0.Name), .sc (.int .i64 a_0.Spread), .sc (.int .i64 a_0.Open), .sc (.int .i64 a_0.Press)]] = some ([(true, [.im 0 (.sc (.string r.Name)), .im 0 (.sc (.int .i64 r.Spread)), .im 0 (.sc (.int .i64 r.Open)), .im 0 (.sc (.int .i64 r.Press))])], []) := by
  unfold laws_toBond at h
  refine FL_goS (A := [(0, .v true [.im 2 (.sc (.string a_0.Name)), .im 2 (.sc (.int .i64 a_0.Spread)), .im 2 (.sc (.int .i64 a_0.Open)), .im 2 (.sc (.int .i64 a_0.Press))])]) (B := [(0, none)]) (nt := 17) rfl rfl Try.func136 rfl rfl rfl rfl ?_
  refine Go.seq ?_
  refine Go.r0 c136 rfl rfl (sq z136 (oBx rfl tF204 rfl (tkI (tkI (tkI (tkI tk0))))) <| sq z136 (oAl rfl tF209 (tkI (tkI (tkI (tkI tk0))))) <| nl) ?_
  refine Unw.seq ?_
  refine Go.seq ?_
  refine Go.r0 c136 rfl rfl (sq z136 (oAl rfl tF209 (tkI (tkI (tkI (tkI tk0))))) <| nl) ?_
  refine Unw.seq ?_
  refine Go.seq ?_
  refine Go.r0 c136 rfl rfl (sq z136 (oFA (r' := .mp 1 0 0) rfl fF204_0 rfl rfl) <| sq z136 (oLd (cs := [.im 0 _]) rfl tF9 rfl rfl) <| sq z136 (oFA (r' := .mp 3 0 0) rfl fF209_0 rfl rfl) <| sq z136 (oSt tF9 rfl rfl rfl (tkI tk0) rfl rfl rfl) <| nl) ?_
  refine Unw.seq ?_
  refine Go.seq ?_
  refine Go.r1 c136 rfl rfl (st1 := mk [(1, .v false [.mp 1 0 0]), (2, .v false [.mp 2 0 0]), (3, .v false [.mp 3 0 0])] [(1, some ⟨0, 0, false, true, false, true, [⟨.imm, 0, 0, .sc (.string a_0.Name)⟩, ⟨.imm, 0, 0, .sc (.int .i64 a_0.Spread)⟩, ⟨.imm, 0, 0, .sc (.int .i64 a_0.Open)⟩, ⟨.imm, 0, 0, .sc (.int .i64 a_0.Press)⟩]⟩), (2, some ⟨0, 0, false, true, false, true, [⟨.imm, 0, 0, .sc (.string (⟨#[]⟩ : ByteArray))⟩, ⟨.imm, 0, 0, .sc (.int .i64 0)⟩, ⟨.imm, 0, 0, .sc (.int .i64 0)⟩, ⟨.imm, 0, 0, .sc (.int .i64 0)⟩]⟩), (3, some ⟨0, 0, false, true, false, true, [⟨.imm, 0, 0, .sc (.string a_0.Name)⟩, ⟨.imm, 0, 0, .sc (.int .i64 0)⟩, ⟨.imm, 0, 0, .sc (.int .i64 0)⟩, ⟨.imm, 0, 0, .sc (.int .i64 0)⟩]⟩)]) (by kernel_rfl) (sq z136 (oFA (r' := .mp 1 0 1) rfl fF204_1 rfl rfl) <| sq z136 (oLd (cs := [.im 0 _]) rfl tF2 rfl rfl) <| sq z136 (oFA (r' := .mp 3 0 1) rfl fF209_1 rfl rfl) <| sq z136 (oSt tF2 rfl rfl rfl (tkI tk0) rfl rfl rfl) <| nl) ?_
  refine Unw.seq ?_
  refine Go.seq ?_
  refine Go.r1 c136 rfl rfl (st1 := mk [(1, .v false [.mp 1 0 0]), (2, .v false [.mp 2 0 0]), (3, .v false [.mp 3 0 0])] [(1, some ⟨0, 0, false, true, false, true, [⟨.imm, 0, 0, .sc (.string a_0.Name)⟩, ⟨.imm, 0, 0, .sc (.int .i64 a_0.Spread)⟩, ⟨.imm, 0, 0, .sc (.int .i64 a_0.Open)⟩, ⟨.imm, 0, 0, .sc (.int .i64 a_0.Press)⟩]⟩), (2, some ⟨0, 0, false, true, false, true, [⟨.imm, 0, 0, .sc (.string (⟨#[]⟩ : ByteArray))⟩, ⟨.imm, 0, 0, .sc (.int .i64 0)⟩, ⟨.imm, 0, 0, .sc (.int .i64 0)⟩, ⟨.imm, 0, 0, .sc (.int .i64 0)⟩]⟩), (3, some ⟨0, 0, false, true, false, true, [⟨.imm, 0, 0, .sc (.string a_0.Name)⟩, ⟨.imm, 0, 0, .sc (.int .i64 a_0.Spread)⟩, ⟨.imm, 0, 0, .sc (.int .i64 0)⟩, ⟨.imm, 0, 0, .sc (.int .i64 0)⟩]⟩)]) (by kernel_rfl) (sq z136 (oFA (r' := .mp 1 0 2) rfl fF204_2 rfl rfl) <| sq z136 (oLd (cs := [.im 0 _]) rfl tF2 rfl rfl) <| sq z136 (oFA (r' := .mp 3 0 2) rfl fF209_2 rfl rfl) <| sq z136 (oSt tF2 rfl rfl rfl (tkI tk0) rfl rfl rfl) <| nl) ?_
  refine Unw.seq ?_
  refine Go.seq ?_
  refine Go.r1 c136 rfl rfl (st1 := mk [(1, .v false [.mp 1 0 0]), (2, .v false [.mp 2 0 0]), (3, .v false [.mp 3 0 0])] [(1, some ⟨0, 0, false, true, false, true, [⟨.imm, 0, 0, .sc (.string a_0.Name)⟩, ⟨.imm, 0, 0, .sc (.int .i64 a_0.Spread)⟩, ⟨.imm, 0, 0, .sc (.int .i64 a_0.Open)⟩, ⟨.imm, 0, 0, .sc (.int .i64 a_0.Press)⟩]⟩), (2, some ⟨0, 0, false, true, false, true, [⟨.imm, 0, 0, .sc (.string (⟨#[]⟩ : ByteArray))⟩, ⟨.imm, 0, 0, .sc (.int .i64 0)⟩, ⟨.imm, 0, 0, .sc (.int .i64 0)⟩, ⟨.imm, 0, 0, .sc (.int .i64 0)⟩]⟩), (3, some ⟨0, 0, false, true, false, true, [⟨.imm, 0, 0, .sc (.string a_0.Name)⟩, ⟨.imm, 0, 0, .sc (.int .i64 a_0.Spread)⟩, ⟨.imm, 0, 0, .sc (.int .i64 a_0.Open)⟩, ⟨.imm, 0, 0, .sc (.int .i64 0)⟩]⟩)]) (by kernel_rfl) (sq z136 (oFA (r' := .mp 1 0 3) rfl fF204_3 rfl rfl) <| sq z136 (oLd (cs := [.im 0 _]) rfl tF2 rfl rfl) <| sq z136 (oFA (r' := .mp 3 0 3) rfl fF209_3 rfl rfl) <| sq z136 (oSt tF2 rfl rfl rfl (tkI tk0) rfl rfl rfl) <| nl) ?_
  refine Unw.seq ?_
  refine Go.seq ?_
  refine Go.r1 c136 rfl rfl (st1 := mk [(2, .v false [.mp 2 0 0]), (3, .v false [.mp 3 0 0])] [(2, some ⟨0, 0, false, true, false, true, [⟨.imm, 0, 0, .sc (.string (⟨#[]⟩ : ByteArray))⟩, ⟨.imm, 0, 0, .sc (.int .i64 0)⟩, ⟨.imm, 0, 0, .sc (.int .i64 0)⟩, ⟨.imm, 0, 0, .sc (.int .i64 0)⟩]⟩), (3, some ⟨0, 0, false, true, false, true, [⟨.imm, 0, 0, .sc (.string a_0.Name)⟩, ⟨.imm, 0, 0, .sc (.int .i64 a_0.Spread)⟩, ⟨.imm, 0, 0, .sc (.int .i64 a_0.Open)⟩, ⟨.imm, 0, 0, .sc (.int .i64 a_0.Press)⟩]⟩)]) (by kernel_rfl) (sq z136 (oLd (cs := [.im 0 _, .im 0 _, .im 0 _, .im 0 _]) rfl tF209 rfl rfl) <| sq z136 (oSt tF209 rfl rfl rfl (tkI (tkI (tkI (tkI tk0)))) rfl rfl rfl) <| nl) ?_
  refine Unw.seq ?_
  refine Go.ret (Unw.ret ?_)
  cases h
  exact Fin_ret (fin_of rfl rF136 rfl (by kernel_rfl))
theorem L_laws_toBondS {a_0 : (List S_Bond)} {r : (List S_Bond)} (h : laws_toBondS a_0 = some r) : FL Try.prog cfg 55 [.im 2 false [.row 4 (List.map e_S_Bond a_0)]] = some ([(false, [.ow 0 4 (List.map e_S_Bond r)])], []) := by
  unfold laws_toBondS at h
  refine FL_goS (A := [(0, .v false [.im 2 (.row 4 (List.map e_S_Bond a_0))])]) (B := [(0, none)]) (nt := 23) rfl rfl Try.func55 rfl rfl rfl rfl ?_
  refine Go.seq ?_
  refine Go.r0 c55 rfl rfl (sq z55 (oAsN rfl rfl eF81) <| nl) ?_
  refine Unw.seq ?_
  refine Go.seq ?_
  obtain ⟨x7, hx7, h⟩ := bs h
  refine Go.r0 c55 rfl rfl (sq z55 (oMv rfl rfl) <| sq z55 (oLnI rfl rfl uF78 rfl) <| sq z55 (oMk (en := e_S_Bond) rfl hx7 rfl sF81 rfl rfl (fxI (fxI (fxI (fxI fx0)))) rfl (flat0 (L := [_]) rfl fun _ => rfl)) <| sq z55 (oAsO rfl rfl rfl rfl rfl) <| nl) ?_
  refine Unw.seq ?_
  refine Go.seq ?_
  refine Go.seq ?_
  refine Go.r0 c55 rfl rfl (sq z55 (oAsI rfl rfl) <| nl) ?_
  refine Unw.seq ?_
  refine Go.block ?_
  obtain ⟨o, hl, h⟩ := bs h
  refine Go.lp c55 rfl _ (fun (s : (Int × (List S_Bond))) => match s with | (i_4_l3, out_o3_l3) => mk [(0, .v false [.im 2 (.row 4 (List.map e_S_Bond a_0))]), (3, .v false [.own 3 0 0]), (4, iv i_4_l3)] [(3, some ⟨0, 0, false, false, false, false, [⟨.sh, 0, 0, .row 4 (List.map e_S_Bond out_o3_l3)⟩]⟩)]) (fun (out_o3_e0_3 : (List S_Bond)) (p : Ex × St) => p.1 = .exit 0 ∧ p.2.norm ([3], [3]) = mk [(3, .v false [.own 3 0 0])] [(3, some ⟨0, 0, false, false, false, false, [⟨.sh, 0, 0, .row 4 (List.map e_S_Bond out_o3_e0_3)⟩]⟩)]) hl (by kernel_rfl) ?_ ?_ ?_
  · intro o p hp e
    exact nomatch (hp.1.symm.trans e)
  · rintro ⟨i_4_l3, out_o3_l3⟩ o h
    unfold laws_toBondS_l3 at h
    dsimp only at h
    refine Go.seq ?_
    refine Go.seq ?_
    refine Go.r0 c55 rfl rfl (sq z55 (oMv rfl rfl) <| sq z55 (oMv rfl rfl) <| sq z55 (oLnI rfl rfl uF78 rfl) <| sq z55 (oBi rfl rfl rfl rfl) <| nl) ?_
    refine Unw.seq ?_
    by_cases hc3 : i_4_l3 < (a_0.length : Int)
    · rw [if_pos hc3] at h
      refine Go.condT rfl (iDec.2 hc3) ?_
      refine Go.skip ?_
      refine Unw.seq ?_
      refine Go.seq ?_
      refine Go.block ?_
      obtain ⟨x18, hx18, h⟩ := bs h
      obtain ⟨x20, hx20, h⟩ := bs h
      obtain ⟨x21, hx21, h⟩ := bs h
      refine Go.r0 c55 rfl rfl (sq z55 (oMv rfl rfl) <| sq z55 (oMv rfl rfl) <| sq z55 (oMv rfl rfl) <| sq z55 (oMv rfl rfl) <| sq z55 (oIAI rfl hx18 sF78 rfl rfl) <| sq z55 (oLd (cs := [.im 2 _, .im 2 _, .im 2 _, .im 2 _]) rfl tF204 rfl rfl) <| sq z55 (oCa (xs := [.v true [.im 2 _, .im 2 _, .im 2 _, .im 2 _]]) (vs := [(true, [.im 0 _, .im 0 _, .im 0 _, .im 0 _])]) (v := .v true [.im 0 _, .im 0 _, .im 0 _, .im 0 _]) (L_laws_toBond hx20) (.inl rfl) rfl kF136_204 rfl (ppC rfl pp0) rfl rfl pb0 rfl rfl rfl) <| sq z55 (oIAO rfl hx21 sF81 rfl rfl rfl rfl) <| sq z55 (oStE (v' := x20) tF209 rfl rfl rfl (fxI (fxI (fxI (fxI fx0)))) rfl rfl (rd_get hx21) rfl) <| nl) ?_
      refine Unw.blk ?_
      refine Unw.seq ?_
      refine Go.r1 c55 rfl rfl (st1 := mk [(0, .v false [.im 2 (.row 4 (List.map e_S_Bond a_0))]), (3, .v false [.own 3 0 0]), (4, iv i_4_l3)] [(3, some ⟨0, 0, false, false, false, false, [⟨.sh, 0, 0, .row 4 (List.map e_S_Bond (out_o3_l3.set i_4_l3.toNat x20))⟩]⟩)]) (by kernel_rfl) (sq z55 (oMv rfl rfl) <| sq z55 (oBi rfl rfl rfl rfl) <| sq z55 (oAsI rfl rfl) <| nl) ?_
      refine Unw.nil ?_
      cases h
      exact ⟨rfl, (by kernel_rfl)⟩
    · rw [if_neg hc3] at h
      refine Go.condF rfl (byF iDec hc3) ?_
      refine Go.exit ?_
      refine Unw.seqx ?_
      refine Unw.nil ?_
      cases h
      exact ⟨rfl, (by kernel_rfl)⟩
  · rintro ⟨e, st⟩ hp
    obtain ⟨out_o3_e0_3, rfl⟩ : ∃ y, y = o := ⟨o, rfl⟩
    obtain ⟨he, hst⟩ := hp
    obtain rfl : e = .exit 0 := he
    refine Unw.blkx ?_
    refine Unw.seq ?_
    refine Go.seq ?_
    refine Go.r1 c55 rfl rfl hst (sq z55 (oMv rfl rfl) <| sq z55 (oAsO rfl rfl rfl rfl rfl) <| nl) ?_
    refine Unw.seq ?_
    refine Go.ret (Unw.ret ?_)
    cases h
    exact Fin_ret (fin_of rfl rF55 rfl (by kernel_rfl))
theorem L_spec_l01Small {c_0 : Int} {r : Bool} (h : spec_l01Small c_0 = some r) : FL Try.prog cfg 276 [.im 2 false [.sc (.int .u8 c_0)]] = some ([(false, [.im 0 (.sc (.bool r))])], []) := by
  unfold spec_l01Small at h
  refine FL_goS (A := [(0, .v false [.im 2 (.sc (.int .u8 c_0))])]) (B := [(0, none)]) (nt := 9) rfl rfl Try.func276 rfl rfl rfl rfl ?_
  refine Go.seq ?_
  refine Go.r0 c276 rfl rfl (sq z276 (oAsI rfl rfl) <| nl) ?_
  refine Unw.seq ?_
  refine Go.seq ?_
  refine Go.rX c276 rfl rfl rfl (mk [(2, bv ((decide (c_0 ≥ 97)) && (decide (c_0 ≤ 122))))] []) ?_ ?_
  · by_cases hc1 : c_0 ≥ 97
    · exact ⟨_, sq z276 (oMv rfl rfl) <| sq z276 (oBi rfl rfl rfl rfl) <| sq z276 (oMv rfl rfl) <| sgT z276 rfl rfl (iDec.2 hc1) (oMv rfl rfl) <| sgT z276 rfl rfl (iDec.2 hc1) (oBi rfl rfl rfl rfl) <| sq z276 (oPkT rfl rfl (iDec.2 hc1) rfl) <| sq z276 (oAsI rfl rfl) <| nl, (Eq.trans (b := (fun t_2_m1 : Bool => mk [(2, bv t_2_m1)] []) (decide (c_0 ≤ 122))) (by kernel_rfl) (congrArg (fun t_2_m1 : Bool => mk [(2, bv t_2_m1)] []) (by first | rfl | (simp [(iDec.2 hc1)]; done) | (simp [(iDec.2 hc1)]; omega))))⟩
    · exact ⟨_, sq z276 (oMv rfl rfl) <| sq z276 (oBi rfl rfl rfl rfl) <| sq z276 (oMv rfl rfl) <| sgF rfl rfl (byF iDec hc1) rfl <| sgF rfl rfl (byF iDec hc1) rfl <| sq z276 (oPkF rfl rfl (byF iDec hc1) rfl) <| sq z276 (oAsI rfl rfl) <| nl, (Eq.trans (b := (fun t_2_m1 : Bool => mk [(2, bv t_2_m1)] []) false) (by kernel_rfl) (congrArg (fun t_2_m1 : Bool => mk [(2, bv t_2_m1)] []) (by first | rfl | (simp [(byF iDec hc1)]; done) | (simp [(byF iDec hc1)]; omega))))⟩
  · refine Unw.seq ?_
    refine Go.ret (Unw.ret ?_)
    cases h
    exact Fin_ret (fin_of rfl rF276 rfl (by kernel_rfl))
theorem L_spec_l01Digit {c_0 : Int} {r : Bool} (h : spec_l01Digit c_0 = some r) : FL Try.prog cfg 277 [.im 2 false [.sc (.int .u8 c_0)]] = some ([(false, [.im 0 (.sc (.bool r))])], []) := by
  unfold spec_l01Digit at h
  refine FL_goS (A := [(0, .v false [.im 2 (.sc (.int .u8 c_0))])]) (B := [(0, none)]) (nt := 9) rfl rfl Try.func277 rfl rfl rfl rfl ?_
  refine Go.seq ?_
  refine Go.r0 c277 rfl rfl (sq z277 (oAsI rfl rfl) <| nl) ?_
  refine Unw.seq ?_
  refine Go.seq ?_
  refine Go.rX c277 rfl rfl rfl (mk [(2, bv ((decide (c_0 ≥ 48)) && (decide (c_0 ≤ 57))))] []) ?_ ?_
  · by_cases hc1 : c_0 ≥ 48
    · exact ⟨_, sq z277 (oMv rfl rfl) <| sq z277 (oBi rfl rfl rfl rfl) <| sq z277 (oMv rfl rfl) <| sgT z277 rfl rfl (iDec.2 hc1) (oMv rfl rfl) <| sgT z277 rfl rfl (iDec.2 hc1) (oBi rfl rfl rfl rfl) <| sq z277 (oPkT rfl rfl (iDec.2 hc1) rfl) <| sq z277 (oAsI rfl rfl) <| nl, (Eq.trans (b := (fun t_2_m1 : Bool => mk [(2, bv t_2_m1)] []) (decide (c_0 ≤ 57))) (by kernel_rfl) (congrArg (fun t_2_m1 : Bool => mk [(2, bv t_2_m1)] []) (by first | rfl | (simp [(iDec.2 hc1)]; done) | (simp [(iDec.2 hc1)]; omega))))⟩
    · exact ⟨_, sq z277 (oMv rfl rfl) <| sq z277 (oBi rfl rfl rfl rfl) <| sq z277 (oMv rfl rfl) <| sgF rfl rfl (byF iDec hc1) rfl <| sgF rfl rfl (byF iDec hc1) rfl <| sq z277 (oPkF rfl rfl (byF iDec hc1) rfl) <| sq z277 (oAsI rfl rfl) <| nl, (Eq.trans (b := (fun t_2_m1 : Bool => mk [(2, bv t_2_m1)] []) false) (by kernel_rfl) (congrArg (fun t_2_m1 : Bool => mk [(2, bv t_2_m1)] []) (by first | rfl | (simp [(byF iDec hc1)]; done) | (simp [(byF iDec hc1)]; omega))))⟩
  · refine Unw.seq ?_
    refine Go.ret (Unw.ret ?_)
    cases h
    exact Fin_ret (fin_of rfl rF277 rfl (by kernel_rfl))
theorem L_spec_l01Name {s_0 : ByteArray} {r : Bool} (h : spec_l01Name s_0 = some r) : FL Try.prog cfg 252 [.im 2 false [.sc (.string s_0)]] = some ([(false, [.im 0 (.sc (.bool r))])], []) := by
  unfold spec_l01Name at h
  refine FL_goS (A := [(0, .v false [.im 2 (.sc (.string s_0))])]) (B := [(0, none)]) (nt := 35) rfl rfl Try.func252 rfl rfl rfl rfl ?_
  refine Go.seq ?_
  refine Go.r0 c252 rfl rfl (sq z252 (oAsI rfl rfl) <| nl) ?_
  refine Unw.seq ?_
  refine Go.seq ?_
  refine Go.seq ?_
  obtain ⟨t_16_m1, hm16, h⟩ := bs h
  refine Go.rX c252 rfl rfl rfl (mk [(0, sv s_0), (16, bv t_16_m1)] []) ?_ ?_
  · by_cases hc1 : s_0 = (⟨#[]⟩ : ByteArray)
    · rw [if_pos hc1] at hm16
      cases hm16
      exact ⟨_, sq z252 (oMv rfl rfl) <| sq z252 (oBi rfl rfl rfl rfl) <| sq z252 (oMv rfl rfl) <| sgF rfl rfl (iStr.2 hc1) rfl <| sgF rfl rfl (iStr.2 hc1) rfl <| sgF rfl rfl (iStr.2 hc1) rfl <| sq z252 (oPkT rfl rfl (iStr.2 hc1) rfl) <| sq z252 (oMv rfl rfl) <| sgF rfl rfl rfl rfl <| sgF rfl rfl rfl rfl <| sgF rfl rfl rfl rfl <| sgF rfl rfl rfl rfl <| sq z252 (oPkT rfl rfl rfl rfl) <| nl, (by kernel_rfl)⟩
    · rw [if_neg hc1] at hm16
      by_cases hc2 : (s_0.size : Int) > 10
      · rw [if_pos hc2] at hm16
        cases hm16
        exact ⟨_, sq z252 (oMv rfl rfl) <| sq z252 (oBi rfl rfl rfl rfl) <| sq z252 (oMv rfl rfl) <| sgT z252 rfl rfl (byF iStr hc1) (oMv rfl rfl) <| sgT z252 rfl rfl (byF iStr hc1) (oLnS rfl rfl uF9 rfl) <| sgT z252 rfl rfl (byF iStr hc1) (oBi rfl rfl rfl rfl) <| sq z252 (oPkF rfl rfl (byF iStr hc1) rfl) <| sq z252 (oMv rfl rfl) <| sgF rfl rfl (iDec.2 hc2) rfl <| sgF rfl rfl (iDec.2 hc2) rfl <| sgF rfl rfl (iDec.2 hc2) rfl <| sgF rfl rfl (iDec.2 hc2) rfl <| sq z252 (oPkT rfl rfl (iDec.2 hc2) rfl) <| nl, (by kernel_rfl)⟩
      · rw [if_neg hc2] at hm16
        obtain ⟨x13, hx13, hm16⟩ := bs hm16
        obtain ⟨x14, hx14, hm16⟩ := bs hm16
        cases hm16
        exact ⟨_, sq z252 (oMv rfl rfl) <| sq z252 (oBi rfl rfl rfl rfl) <| sq z252 (oMv rfl rfl) <| sgT z252 rfl rfl (byF iStr hc1) (oMv rfl rfl) <| sgT z252 rfl rfl (byF iStr hc1) (oLnS rfl rfl uF9 rfl) <| sgT z252 rfl rfl (byF iStr hc1) (oBi rfl rfl rfl rfl) <| sq z252 (oPkF rfl rfl (byF iStr hc1) rfl) <| sq z252 (oMv rfl rfl) <| sgT z252 rfl rfl (byF iDec hc2) (oMv rfl rfl) <| sgT z252 rfl rfl (byF iDec hc2) (oIx rfl hx13 uF9 rfl rfl) <| sgT z252 rfl rfl (byF iDec hc2) (oCa (xs := [.v false [.im 0 _]]) (vs := [(false, [.im 0 _])]) (v := .v false [.im 0 _]) (L_spec_l01Small hx14) (.inl rfl) rfl kF276_5 rfl (ppC rfl pp0) rfl rfl pb0 rfl rfl rfl) <| sgT z252 rfl rfl (byF iDec hc2) (oUn rfl rfl rfl) <| sq z252 (oPkF rfl rfl (byF iDec hc2) rfl) <| nl, (by kernel_rfl)⟩
  · refine Unw.seq ?_
    by_cases hc3 : t_16_m1 = true
    · rw [if_pos hc3] at h
      refine Go.condT rfl (Iff.rfl.2 hc3) ?_
      refine Go.seq ?_
      refine Go.r0 c252 rfl rfl (sq z252 (oAsI rfl rfl) <| nl) ?_
      refine Unw.seq ?_
      refine Go.ret (Unw.ret ?_)
      cases h
      exact Fin_ret (fin_of rfl rF252 rfl (by kernel_rfl))
    · rw [if_neg hc3] at h
      refine Go.condF rfl (byF Iff.rfl hc3) ?_
      refine Go.skip ?_
      refine Unw.seq ?_
      refine Go.seq ?_
      refine Go.seq ?_
      refine Go.r0 c252 rfl rfl (sq z252 (oAsI rfl rfl) <| nl) ?_
      refine Unw.seq ?_
      refine Go.block ?_
      obtain ⟨o, hl, h⟩ := bs h
      refine Go.lp c252 rfl _ (fun (i_3_l4 : Int) => mk [(0, sv s_0), (3, iv i_3_l4)] []) (fun (o : (Unit ⊕ Bool)) (p : Ex × St) => match o with | (.inl _) => p.1 = .exit 0 ∧ p.2.norm ([], []) = mk [] [] | (.inr r2) => p.1 = .ret ∧ fin Try.prog cfg 252 Try.f252 [.im 2 false [.sc (.string s_0)]] p.2 = some ([(false, [.im 0 (.sc (.bool r2))])], [])) hl (by kernel_rfl) ?_ ?_ ?_
      · intro o p hp e
        rcases o with u | r2 <;> exact nomatch (hp.1.symm.trans e)
      · rintro i_3_l4 o h
        unfold spec_l01Name_l4 at h
        refine Go.seq ?_
        refine Go.seq ?_
        refine Go.r0 c252 rfl rfl (sq z252 (oMv rfl rfl) <| sq z252 (oMv rfl rfl) <| sq z252 (oLnS rfl rfl uF9 rfl) <| sq z252 (oBi rfl rfl rfl rfl) <| nl) ?_
        refine Unw.seq ?_
        by_cases hc12 : i_3_l4 < (s_0.size : Int)
        · rw [if_pos hc12] at h
          refine Go.condT rfl (iDec.2 hc12) ?_
          refine Go.skip ?_
          refine Unw.seq ?_
          refine Go.seq ?_
          refine Go.block ?_
          refine Go.seq ?_
          obtain ⟨x25, hx25, h⟩ := bs h
          obtain ⟨x26, hx26, h⟩ := bs h
          obtain ⟨t_34_m6, hm15, h⟩ := bs h
          refine Go.rX c252 rfl rfl rfl (mk [(0, sv s_0), (3, iv i_3_l4), (34, bv t_34_m6)] []) ?_ ?_
          · by_cases hc13 : x26 = true
            · rw [if_pos hc13] at hm15
              cases hm15
              exact ⟨_, sq z252 (oMv rfl rfl) <| sq z252 (oMv rfl rfl) <| sq z252 (oIx rfl hx25 uF9 rfl rfl) <| sq z252 (oCa (xs := [.v false [.im 0 _]]) (vs := [(false, [.im 0 _])]) (v := .v false [.im 0 _]) (L_spec_l01Small hx26) (.inl rfl) rfl kF276_5 rfl (ppC rfl pp0) rfl rfl pb0 rfl rfl rfl) <| sq z252 (oUn rfl rfl rfl) <| sq z252 (oMv rfl rfl) <| sgF rfl rfl (nF (Iff.rfl.2 hc13)) rfl <| sgF rfl rfl (nF (Iff.rfl.2 hc13)) rfl <| sgF rfl rfl (nF (Iff.rfl.2 hc13)) rfl <| sgF rfl rfl (nF (Iff.rfl.2 hc13)) rfl <| sgF rfl rfl (nF (Iff.rfl.2 hc13)) rfl <| sq z252 (oPkF rfl rfl (nF (Iff.rfl.2 hc13)) rfl) <| nl, (by kernel_rfl)⟩
            · rw [if_neg hc13] at hm15
              obtain ⟨x31, hx31, hm15⟩ := bs hm15
              obtain ⟨x32, hx32, hm15⟩ := bs hm15
              cases hm15
              exact ⟨_, sq z252 (oMv rfl rfl) <| sq z252 (oMv rfl rfl) <| sq z252 (oIx rfl hx25 uF9 rfl rfl) <| sq z252 (oCa (xs := [.v false [.im 0 _]]) (vs := [(false, [.im 0 _])]) (v := .v false [.im 0 _]) (L_spec_l01Small hx26) (.inl rfl) rfl kF276_5 rfl (ppC rfl pp0) rfl rfl pb0 rfl rfl rfl) <| sq z252 (oUn rfl rfl rfl) <| sq z252 (oMv rfl rfl) <| sgT z252 rfl rfl (nT (byF Iff.rfl hc13)) (oMv rfl rfl) <| sgT z252 rfl rfl (nT (byF Iff.rfl hc13)) (oMv rfl rfl) <| sgT z252 rfl rfl (nT (byF Iff.rfl hc13)) (oIx rfl hx31 uF9 rfl rfl) <| sgT z252 rfl rfl (nT (byF Iff.rfl hc13)) (oCa (xs := [.v false [.im 0 _]]) (vs := [(false, [.im 0 _])]) (v := .v false [.im 0 _]) (L_spec_l01Digit hx32) (.inl rfl) rfl kF277_5 rfl (ppC rfl pp0) rfl rfl pb0 rfl rfl rfl) <| sgT z252 rfl rfl (nT (byF Iff.rfl hc13)) (oUn rfl rfl rfl) <| sq z252 (oPkT rfl rfl (nT (byF Iff.rfl hc13)) rfl) <| nl, (by kernel_rfl)⟩
          · refine Unw.seq ?_
            by_cases hc14 : t_34_m6 = true
            · rw [if_pos hc14] at h
              refine Go.condT rfl (Iff.rfl.2 hc14) ?_
              refine Go.seq ?_
              refine Go.r0 c252 rfl rfl (sq z252 (oAsI rfl rfl) <| nl) ?_
              refine Unw.seq ?_
              refine Go.ret (Unw.ret ?_)
              cases h
              exact ⟨rfl, (fin_of rfl rF252 rfl (by kernel_rfl))⟩
            · rw [if_neg hc14] at h
              refine Go.condF rfl (byF Iff.rfl hc14) ?_
              refine Go.skip ?_
              refine Unw.blk ?_
              refine Unw.seq ?_
              refine Go.r0 c252 rfl rfl (sq z252 (oMv rfl rfl) <| sq z252 (oBi rfl rfl rfl rfl) <| sq z252 (oAsI rfl rfl) <| nl) ?_
              refine Unw.nil ?_
              cases h
              exact ⟨rfl, (by kernel_rfl)⟩
        · rw [if_neg hc12] at h
          refine Go.condF rfl (byF iDec hc12) ?_
          refine Go.exit ?_
          refine Unw.seqx ?_
          refine Unw.nil ?_
          cases h
          exact ⟨rfl, (by kernel_rfl)⟩
      · rintro ⟨e, st⟩ hp
        rcases o with u | r2
        · dsimp only at h
          obtain ⟨he, hst⟩ := hp
          obtain rfl : e = .exit 0 := he
          refine Unw.blkx ?_
          refine Unw.seq ?_
          refine Go.seq ?_
          refine Go.r1 c252 rfl rfl hst (sq z252 (oAsI rfl rfl) <| nl) ?_
          refine Unw.seq ?_
          refine Go.ret (Unw.ret ?_)
          cases h
          exact Fin_ret (fin_of rfl rF252 rfl (by kernel_rfl))
        · dsimp only at h
          obtain ⟨he, hfin⟩ := hp
          obtain rfl : e = .ret := he
          cases h
          exact Unw.ret (Fin_ret hfin)
theorem L_spec_l00In {n_0 : Int} {low_1 : Int} {high_2 : Int} {r : Bool} (h : spec_l00In n_0 low_1 high_2 = some r) : FL Try.prog cfg 102 [.im 2 false [.sc (.int .i64 n_0)], .im 2 false [.sc (.int .i64 low_1)], .im 2 false [.sc (.int .i64 high_2)]] = some ([(false, [.im 0 (.sc (.bool r))])], []) := by
  unfold spec_l00In at h
  refine FL_goS (A := [(0, .v false [.im 2 (.sc (.int .i64 n_0))]), (1, .v false [.im 2 (.sc (.int .i64 low_1))]), (2, .v false [.im 2 (.sc (.int .i64 high_2))])]) (B := [(0, none), (1, none), (2, none)]) (nt := 15) rfl rfl Try.func102 rfl rfl rfl rfl ?_
  refine Go.seq ?_
  refine Go.r0 c102 rfl rfl (sq z102 (oAsI rfl rfl) <| nl) ?_
  refine Unw.seq ?_
  refine Go.seq ?_
  refine Go.rX c102 rfl rfl rfl (mk [(6, bv ((decide (n_0 ≥ low_1)) && (decide (n_0 ≤ high_2))))] []) ?_ ?_
  · by_cases hc1 : n_0 ≥ low_1
    · exact ⟨_, sq z102 (oMv rfl rfl) <| sq z102 (oMv rfl rfl) <| sq z102 (oBi rfl rfl rfl rfl) <| sq z102 (oMv rfl rfl) <| sgT z102 rfl rfl (iDec.2 hc1) (oMv rfl rfl) <| sgT z102 rfl rfl (iDec.2 hc1) (oMv rfl rfl) <| sgT z102 rfl rfl (iDec.2 hc1) (oBi rfl rfl rfl rfl) <| sq z102 (oPkT rfl rfl (iDec.2 hc1) rfl) <| sq z102 (oAsI rfl rfl) <| nl, (Eq.trans (b := (fun t_6_m1 : Bool => mk [(6, bv t_6_m1)] []) (decide (n_0 ≤ high_2))) (by kernel_rfl) (congrArg (fun t_6_m1 : Bool => mk [(6, bv t_6_m1)] []) (by first | rfl | (simp [(iDec.2 hc1)]; done) | (simp [(iDec.2 hc1)]; omega))))⟩
    · exact ⟨_, sq z102 (oMv rfl rfl) <| sq z102 (oMv rfl rfl) <| sq z102 (oBi rfl rfl rfl rfl) <| sq z102 (oMv rfl rfl) <| sgF rfl rfl (byF iDec hc1) rfl <| sgF rfl rfl (byF iDec hc1) rfl <| sgF rfl rfl (byF iDec hc1) rfl <| sq z102 (oPkF rfl rfl (byF iDec hc1) rfl) <| sq z102 (oAsI rfl rfl) <| nl, (Eq.trans (b := (fun t_6_m1 : Bool => mk [(6, bv t_6_m1)] []) false) (by kernel_rfl) (congrArg (fun t_6_m1 : Bool => mk [(6, bv t_6_m1)] []) (by first | rfl | (simp [(byF iDec hc1)]; done) | (simp [(byF iDec hc1)]; omega))))⟩
  · refine Unw.seq ?_
    refine Go.ret (Unw.ret ?_)
    cases h
    exact Fin_ret (fin_of rfl rF102 rfl (by kernel_rfl))
theorem L_spec_l24One {b_0 : S_Bond} {r : Bool} (h : spec_l24One b_0 = some r) : FL Try.prog cfg 216 [.im 2 false [.cp [.sc (.string b_0.Name), .sc (.int .i64 b_0.Spread), .sc (.int .i64 b_0.Open), .sc (.int .i64 b_0.Press)] 0]] = some ([(false, [.im 0 (.sc (.bool r))])], []) := by
  unfold spec_l24One at h
  refine FL_goS (A := [(0, .v false [.im 2 (.cp [.sc (.string b_0.Name), .sc (.int .i64 b_0.Spread), .sc (.int .i64 b_0.Open), .sc (.int .i64 b_0.Press)] 0)])]) (B := [(0, none)]) (nt := 33) rfl rfl Try.func216 rfl rfl rfl rfl ?_
  refine Go.seq ?_
  refine Go.r0 c216 rfl rfl (sq z216 (oAsI rfl rfl) <| nl) ?_
  refine Unw.seq ?_
  refine Go.seq ?_
  obtain ⟨x7, hx7, h⟩ := bs h
  obtain ⟨t_2_m1, hm4, h⟩ := bs h
  refine Go.dr c216 rfl rfl rfl rfl (mk [(2, bv t_2_m1)] []) ?_ ?_
  · by_cases hc1 : x7 = true
    · rw [if_pos hc1] at hm4
      obtain ⟨x13, hx13, hm4⟩ := bs hm4
      by_cases hc2 : x13 = true
      · rw [if_pos hc2] at hm4
        obtain ⟨x24, hx24, hm4⟩ := bs hm4
        by_cases hc3 : x24 = true
        · rw [if_pos hc3] at hm4
          obtain ⟨x31, hx31, hm4⟩ := bs hm4
          cases hm4
          exact sT rfl (dN z216 rfl (oMv rfl rfl)) <| sT rfl (dN z216 rfl (oNl rfl rfl rfl)) <| sT rfl (dN z216 rfl (oFA (r' := .im 2 _) rfl fF209_0 rfl rfl)) <| sT rfl (dN z216 rfl (oLd (cs := [.im 2 _]) rfl tF9 rfl rfl)) <| sS (dN z216 rfl (oCa (xs := [.v false [.im 2 _]]) (vs := [(false, [.im 0 _])]) (v := .v false [.im 0 _]) (L_spec_l01Name hx7) (.inl rfl) rfl kF252_9 rfl (ppC rfl pp0) rfl rfl pb0 rfl rfl rfl)) trivial (sT rfl (dN z216 rfl (oMv rfl rfl)) <| sT rfl (dT z216 rfl rfl rfl (Iff.rfl.2 hc1) (oMv rfl rfl)) <| sT rfl (dT z216 rfl rfl rfl (Iff.rfl.2 hc1) (oNl rfl rfl rfl)) <| sT rfl (dT z216 rfl rfl rfl (Iff.rfl.2 hc1) (oFA (r' := .im 2 _) rfl fF209_1 rfl rfl)) <| sT rfl (dT z216 rfl rfl rfl (Iff.rfl.2 hc1) (oLd (cs := [.im 2 _]) rfl tF2 rfl rfl)) <| sS (dT z216 rfl rfl rfl (Iff.rfl.2 hc1) (oCa (xs := [.v false [.im 2 _], .v false [.im 0 _], .v false [.im 0 _]]) (vs := [(false, [.im 0 _])]) (v := .v false [.im 0 _]) (L_spec_l00In hx13) (.inl rfl) rfl kF102_2_2_2 rfl (ppC rfl (ppC rfl (ppC rfl pp0))) rfl rfl pb0 rfl rfl rfl)) trivial (sT rfl (dN z216 rfl (oPkT rfl rfl (Iff.rfl.2 hc1) rfl)) <| sT rfl (dN z216 rfl (oMv rfl rfl)) <| sT rfl (dT z216 rfl rfl rfl (Iff.rfl.2 hc2) (oMv rfl rfl)) <| sT rfl (dT z216 rfl rfl rfl (Iff.rfl.2 hc2) (oNl rfl rfl rfl)) <| sT rfl (dT z216 rfl rfl rfl (Iff.rfl.2 hc2) (oFA (r' := .im 2 _) rfl fF209_2 rfl rfl)) <| sT rfl (dT z216 rfl rfl rfl (Iff.rfl.2 hc2) (oLd (cs := [.im 2 _]) rfl tF2 rfl rfl)) <| sT rfl (dT z216 rfl rfl rfl (Iff.rfl.2 hc2) (oMv rfl rfl)) <| sT rfl (dT z216 rfl rfl rfl (Iff.rfl.2 hc2) (oNl rfl rfl rfl)) <| sT rfl (dT z216 rfl rfl rfl (Iff.rfl.2 hc2) (oFA (r' := .im 2 _) rfl fF209_1 rfl rfl)) <| sT rfl (dT z216 rfl rfl rfl (Iff.rfl.2 hc2) (oLd (cs := [.im 2 _]) rfl tF2 rfl rfl)) <| sS (dT z216 rfl rfl rfl (Iff.rfl.2 hc2) (oCa (xs := [.v false [.im 2 _], .v false [.im 2 _], .v false [.im 0 _]]) (vs := [(false, [.im 0 _])]) (v := .v false [.im 0 _]) (L_spec_l00In hx24) (.inl rfl) rfl kF102_2_2_2 rfl (ppC rfl (ppC rfl (ppC rfl pp0))) rfl rfl pb0 rfl rfl rfl)) trivial (sT rfl (dN z216 rfl (oPkT rfl rfl (Iff.rfl.2 hc2) rfl)) <| sT rfl (dN z216 rfl (oMv rfl rfl)) <| sT rfl (dT z216 rfl rfl rfl (Iff.rfl.2 hc3) (oMv rfl rfl)) <| sT rfl (dT z216 rfl rfl rfl (Iff.rfl.2 hc3) (oNl rfl rfl rfl)) <| sT rfl (dT z216 rfl rfl rfl (Iff.rfl.2 hc3) (oFA (r' := .im 2 _) rfl fF209_3 rfl rfl)) <| sT rfl (dT z216 rfl rfl rfl (Iff.rfl.2 hc3) (oLd (cs := [.im 2 _]) rfl tF2 rfl rfl)) <| sS (dT z216 rfl rfl rfl (Iff.rfl.2 hc3) (oCa (xs := [.v false [.im 2 _], .v false [.im 0 _], .v false [.im 0 _]]) (vs := [(false, [.im 0 _])]) (v := .v false [.im 0 _]) (L_spec_l00In hx31) (.inl rfl) rfl kF102_2_2_2 rfl (ppC rfl (ppC rfl (ppC rfl pp0))) rfl rfl pb0 rfl rfl rfl)) trivial (sT rfl (dN z216 rfl (oPkT rfl rfl (Iff.rfl.2 hc3) rfl)) <| sS (dN z216 rfl (oAsI rfl rfl)) trivial (sD (by kernel_rfl))))))
        · rw [if_neg hc3] at hm4
          cases hm4
          exact sT rfl (dN z216 rfl (oMv rfl rfl)) <| sT rfl (dN z216 rfl (oNl rfl rfl rfl)) <| sT rfl (dN z216 rfl (oFA (r' := .im 2 _) rfl fF209_0 rfl rfl)) <| sT rfl (dN z216 rfl (oLd (cs := [.im 2 _]) rfl tF9 rfl rfl)) <| sS (dN z216 rfl (oCa (xs := [.v false [.im 2 _]]) (vs := [(false, [.im 0 _])]) (v := .v false [.im 0 _]) (L_spec_l01Name hx7) (.inl rfl) rfl kF252_9 rfl (ppC rfl pp0) rfl rfl pb0 rfl rfl rfl)) trivial (sT rfl (dN z216 rfl (oMv rfl rfl)) <| sT rfl (dT z216 rfl rfl rfl (Iff.rfl.2 hc1) (oMv rfl rfl)) <| sT rfl (dT z216 rfl rfl rfl (Iff.rfl.2 hc1) (oNl rfl rfl rfl)) <| sT rfl (dT z216 rfl rfl rfl (Iff.rfl.2 hc1) (oFA (r' := .im 2 _) rfl fF209_1 rfl rfl)) <| sT rfl (dT z216 rfl rfl rfl (Iff.rfl.2 hc1) (oLd (cs := [.im 2 _]) rfl tF2 rfl rfl)) <| sS (dT z216 rfl rfl rfl (Iff.rfl.2 hc1) (oCa (xs := [.v false [.im 2 _], .v false [.im 0 _], .v false [.im 0 _]]) (vs := [(false, [.im 0 _])]) (v := .v false [.im 0 _]) (L_spec_l00In hx13) (.inl rfl) rfl kF102_2_2_2 rfl (ppC rfl (ppC rfl (ppC rfl pp0))) rfl rfl pb0 rfl rfl rfl)) trivial (sT rfl (dN z216 rfl (oPkT rfl rfl (Iff.rfl.2 hc1) rfl)) <| sT rfl (dN z216 rfl (oMv rfl rfl)) <| sT rfl (dT z216 rfl rfl rfl (Iff.rfl.2 hc2) (oMv rfl rfl)) <| sT rfl (dT z216 rfl rfl rfl (Iff.rfl.2 hc2) (oNl rfl rfl rfl)) <| sT rfl (dT z216 rfl rfl rfl (Iff.rfl.2 hc2) (oFA (r' := .im 2 _) rfl fF209_2 rfl rfl)) <| sT rfl (dT z216 rfl rfl rfl (Iff.rfl.2 hc2) (oLd (cs := [.im 2 _]) rfl tF2 rfl rfl)) <| sT rfl (dT z216 rfl rfl rfl (Iff.rfl.2 hc2) (oMv rfl rfl)) <| sT rfl (dT z216 rfl rfl rfl (Iff.rfl.2 hc2) (oNl rfl rfl rfl)) <| sT rfl (dT z216 rfl rfl rfl (Iff.rfl.2 hc2) (oFA (r' := .im 2 _) rfl fF209_1 rfl rfl)) <| sT rfl (dT z216 rfl rfl rfl (Iff.rfl.2 hc2) (oLd (cs := [.im 2 _]) rfl tF2 rfl rfl)) <| sS (dT z216 rfl rfl rfl (Iff.rfl.2 hc2) (oCa (xs := [.v false [.im 2 _], .v false [.im 2 _], .v false [.im 0 _]]) (vs := [(false, [.im 0 _])]) (v := .v false [.im 0 _]) (L_spec_l00In hx24) (.inl rfl) rfl kF102_2_2_2 rfl (ppC rfl (ppC rfl (ppC rfl pp0))) rfl rfl pb0 rfl rfl rfl)) trivial (sT rfl (dN z216 rfl (oPkT rfl rfl (Iff.rfl.2 hc2) rfl)) <| sT rfl (dN z216 rfl (oMv rfl rfl)) <| sT rfl (dF rfl rfl rfl (byF Iff.rfl hc3) rfl) <| sT rfl (dF rfl rfl rfl (byF Iff.rfl hc3) rfl) <| sT rfl (dF rfl rfl rfl (byF Iff.rfl hc3) rfl) <| sT rfl (dF rfl rfl rfl (byF Iff.rfl hc3) rfl) <| sS (dF rfl rfl rfl (byF Iff.rfl hc3) rfl) trivial (sT rfl (dN z216 rfl (oPkF rfl rfl (byF Iff.rfl hc3) rfl)) <| sS (dN z216 rfl (oAsI rfl rfl)) trivial (sD (by kernel_rfl))))))
      · rw [if_neg hc2] at hm4
        cases hm4
        exact sT rfl (dN z216 rfl (oMv rfl rfl)) <| sT rfl (dN z216 rfl (oNl rfl rfl rfl)) <| sT rfl (dN z216 rfl (oFA (r' := .im 2 _) rfl fF209_0 rfl rfl)) <| sT rfl (dN z216 rfl (oLd (cs := [.im 2 _]) rfl tF9 rfl rfl)) <| sS (dN z216 rfl (oCa (xs := [.v false [.im 2 _]]) (vs := [(false, [.im 0 _])]) (v := .v false [.im 0 _]) (L_spec_l01Name hx7) (.inl rfl) rfl kF252_9 rfl (ppC rfl pp0) rfl rfl pb0 rfl rfl rfl)) trivial (sT rfl (dN z216 rfl (oMv rfl rfl)) <| sT rfl (dT z216 rfl rfl rfl (Iff.rfl.2 hc1) (oMv rfl rfl)) <| sT rfl (dT z216 rfl rfl rfl (Iff.rfl.2 hc1) (oNl rfl rfl rfl)) <| sT rfl (dT z216 rfl rfl rfl (Iff.rfl.2 hc1) (oFA (r' := .im 2 _) rfl fF209_1 rfl rfl)) <| sT rfl (dT z216 rfl rfl rfl (Iff.rfl.2 hc1) (oLd (cs := [.im 2 _]) rfl tF2 rfl rfl)) <| sS (dT z216 rfl rfl rfl (Iff.rfl.2 hc1) (oCa (xs := [.v false [.im 2 _], .v false [.im 0 _], .v false [.im 0 _]]) (vs := [(false, [.im 0 _])]) (v := .v false [.im 0 _]) (L_spec_l00In hx13) (.inl rfl) rfl kF102_2_2_2 rfl (ppC rfl (ppC rfl (ppC rfl pp0))) rfl rfl pb0 rfl rfl rfl)) trivial (sT rfl (dN z216 rfl (oPkT rfl rfl (Iff.rfl.2 hc1) rfl)) <| sT rfl (dN z216 rfl (oMv rfl rfl)) <| sT rfl (dF rfl rfl rfl (byF Iff.rfl hc2) rfl) <| sT rfl (dF rfl rfl rfl (byF Iff.rfl hc2) rfl) <| sT rfl (dF rfl rfl rfl (byF Iff.rfl hc2) rfl) <| sT rfl (dF rfl rfl rfl (byF Iff.rfl hc2) rfl) <| sT rfl (dF rfl rfl rfl (byF Iff.rfl hc2) rfl) <| sT rfl (dF rfl rfl rfl (byF Iff.rfl hc2) rfl) <| sT rfl (dF rfl rfl rfl (byF Iff.rfl hc2) rfl) <| sT rfl (dF rfl rfl rfl (byF Iff.rfl hc2) rfl) <| sS (dF rfl rfl rfl (byF Iff.rfl hc2) rfl) trivial (sT rfl (dN z216 rfl (oPkF rfl rfl (byF Iff.rfl hc2) rfl)) <| sT rfl (dN z216 rfl (oMv rfl rfl)) <| sT rfl (dF rfl rfl rfl rfl rfl) <| sT rfl (dF rfl rfl rfl rfl rfl) <| sT rfl (dF rfl rfl rfl rfl rfl) <| sT rfl (dF rfl rfl rfl rfl rfl) <| sS (dF rfl rfl rfl rfl rfl) trivial (sT rfl (dN z216 rfl (oPkF rfl rfl rfl rfl)) <| sS (dN z216 rfl (oAsI rfl rfl)) trivial (sD (by kernel_rfl))))))
    · rw [if_neg hc1] at hm4
      cases hm4
      exact sT rfl (dN z216 rfl (oMv rfl rfl)) <| sT rfl (dN z216 rfl (oNl rfl rfl rfl)) <| sT rfl (dN z216 rfl (oFA (r' := .im 2 _) rfl fF209_0 rfl rfl)) <| sT rfl (dN z216 rfl (oLd (cs := [.im 2 _]) rfl tF9 rfl rfl)) <| sS (dN z216 rfl (oCa (xs := [.v false [.im 2 _]]) (vs := [(false, [.im 0 _])]) (v := .v false [.im 0 _]) (L_spec_l01Name hx7) (.inl rfl) rfl kF252_9 rfl (ppC rfl pp0) rfl rfl pb0 rfl rfl rfl)) trivial (sT rfl (dN z216 rfl (oMv rfl rfl)) <| sT rfl (dF rfl rfl rfl (byF Iff.rfl hc1) rfl) <| sT rfl (dF rfl rfl rfl (byF Iff.rfl hc1) rfl) <| sT rfl (dF rfl rfl rfl (byF Iff.rfl hc1) rfl) <| sT rfl (dF rfl rfl rfl (byF Iff.rfl hc1) rfl) <| sS (dF rfl rfl rfl (byF Iff.rfl hc1) rfl) trivial (sT rfl (dN z216 rfl (oPkF rfl rfl (byF Iff.rfl hc1) rfl)) <| sT rfl (dN z216 rfl (oMv rfl rfl)) <| sT rfl (dF rfl rfl rfl rfl rfl) <| sT rfl (dF rfl rfl rfl rfl rfl) <| sT rfl (dF rfl rfl rfl rfl rfl) <| sT rfl (dF rfl rfl rfl rfl rfl) <| sT rfl (dF rfl rfl rfl rfl rfl) <| sT rfl (dF rfl rfl rfl rfl rfl) <| sT rfl (dF rfl rfl rfl rfl rfl) <| sT rfl (dF rfl rfl rfl rfl rfl) <| sS (dF rfl rfl rfl rfl rfl) trivial (sT rfl (dN z216 rfl (oPkF rfl rfl rfl rfl)) <| sT rfl (dN z216 rfl (oMv rfl rfl)) <| sT rfl (dF rfl rfl rfl rfl rfl) <| sT rfl (dF rfl rfl rfl rfl rfl) <| sT rfl (dF rfl rfl rfl rfl rfl) <| sT rfl (dF rfl rfl rfl rfl rfl) <| sS (dF rfl rfl rfl rfl rfl) trivial (sT rfl (dN z216 rfl (oPkF rfl rfl rfl rfl)) <| sS (dN z216 rfl (oAsI rfl rfl)) trivial (sD (by kernel_rfl))))))
  · refine Unw.seq ?_
    refine Go.ret (Unw.ret ?_)
    cases h
    exact Fin_ret (fin_of rfl rF216 rfl (by kernel_rfl))
theorem L_spec_l24Ok {list_0 : (List S_Bond)} {r : Bool} (h : spec_l24Ok list_0 = some r) : FL Try.prog cfg 134 [.im 2 false [.row 4 (List.map e_S_Bond list_0)]] = some ([(false, [.im 0 (.sc (.bool r))])], []) := by
  unfold spec_l24Ok at h
  refine FL_goS (A := [(0, .v false [.im 2 (.row 4 (List.map e_S_Bond list_0))])]) (B := [(0, none)]) (nt := 36) rfl rfl Try.func134 rfl rfl rfl rfl ?_
  refine Go.seq ?_
  refine Go.r0 c134 rfl rfl (sq z134 (oAsI rfl rfl) <| nl) ?_
  refine Unw.seq ?_
  refine Go.seq ?_
  refine Go.seq ?_
  refine Go.r0 c134 rfl rfl (sq z134 (oAsI rfl rfl) <| nl) ?_
  refine Unw.seq ?_
  refine Go.block ?_
  obtain ⟨o, hl, h⟩ := bs h
  refine Go.lp c134 rfl _ (fun (i_3_l2 : Int) => mk [(0, .v false [.im 2 (.row 4 (List.map e_S_Bond list_0))]), (3, iv i_3_l2)] []) (fun (o : (Unit ⊕ Bool)) (p : Ex × St) => match o with | (.inl _) => p.1 = .exit 0 ∧ p.2.norm ([0], []) = mk [(0, .v false [.im 2 (.row 4 (List.map e_S_Bond list_0))])] [] | (.inr r2) => p.1 = .ret ∧ fin Try.prog cfg 134 Try.f134 [.im 2 false [.row 4 (List.map e_S_Bond list_0)]] p.2 = some ([(false, [.im 0 (.sc (.bool r2))])], [])) hl (by kernel_rfl) ?_ ?_ ?_
  · intro o p hp e
    rcases o with u | r2 <;> exact nomatch (hp.1.symm.trans e)
  · rintro i_3_l2 o h
    unfold spec_l24Ok_l2 at h
    refine Go.seq ?_
    refine Go.seq ?_
    refine Go.r0 c134 rfl rfl (sq z134 (oMv rfl rfl) <| sq z134 (oMv rfl rfl) <| sq z134 (oLnI rfl rfl uF81 rfl) <| sq z134 (oBi rfl rfl rfl rfl) <| nl) ?_
    refine Unw.seq ?_
    by_cases hc11 : i_3_l2 < (list_0.length : Int)
    · rw [if_pos hc11] at h
      refine Go.condT rfl (iDec.2 hc11) ?_
      refine Go.skip ?_
      refine Unw.seq ?_
      refine Go.seq ?_
      refine Go.block ?_
      refine Go.seq ?_
      obtain ⟨x12, hx12, h⟩ := bs h
      obtain ⟨x13, hx13, h⟩ := bs h
      obtain ⟨t_32_m4, hm15, h⟩ := bs h
      refine Go.dr c134 rfl rfl rfl rfl (mk [(0, .v false [.im 2 (.row 4 (List.map e_S_Bond list_0))]), (3, iv i_3_l2), (32, bv t_32_m4)] []) ?_ ?_
      · by_cases hc12 : x13 = true
        · rw [if_pos hc12] at hm15
          by_cases hc13 : i_3_l2 > 0
          · rw [if_pos hc13] at hm15
            obtain ⟨x22, hx22, hm15⟩ := bs hm15
            obtain ⟨x27, hx27, hm15⟩ := bs hm15
            cases hm15
            exact sT rfl (dN z134 rfl (oMv rfl rfl)) <| sT rfl (dN z134 rfl (oMv rfl rfl)) <| sT rfl (dN z134 rfl (oIAI rfl hx12 sF81 rfl rfl)) <| sS (dN z134 rfl (oCa (xs := [.v false [.im 2 _]]) (vs := [(false, [.im 0 _])]) (v := .v false [.im 0 _]) (L_spec_l24One hx13) (.inl rfl) rfl kF216_311 rfl (ppC rfl pp0) rfl rfl pb0 rfl rfl rfl)) trivial (sT rfl (dN z134 rfl (oUn rfl rfl rfl)) <| sT rfl (dN z134 rfl (oMv rfl rfl)) <| sT rfl (dT z134 rfl rfl rfl (nF (Iff.rfl.2 hc12)) (oMv rfl rfl)) <| sT rfl (dT z134 rfl rfl rfl (nF (Iff.rfl.2 hc12)) (oBi rfl rfl rfl rfl)) <| sT rfl (dT z134 rfl rfl rfl (nF (Iff.rfl.2 hc12)) (oMv rfl rfl)) <| sT rfl (dT z134 rfl rfl rfl (iDec.2 hc13) (oMv rfl rfl)) <| sT rfl (dT z134 rfl rfl rfl (iDec.2 hc13) (oMv rfl rfl)) <| sT rfl (dT z134 rfl rfl rfl (iDec.2 hc13) (oBi rfl rfl rfl rfl)) <| sT rfl (dT z134 rfl rfl rfl (iDec.2 hc13) (oIAI rfl hx22 sF81 rfl rfl)) <| sT rfl (dT z134 rfl rfl rfl (iDec.2 hc13) (oFA (r' := .im 2 _) rfl fF209_0 rfl rfl)) <| sT rfl (dT z134 rfl rfl rfl (iDec.2 hc13) (oLd (cs := [.im 2 _]) rfl tF9 rfl rfl)) <| sT rfl (dT z134 rfl rfl rfl (iDec.2 hc13) (oMv rfl rfl)) <| sT rfl (dT z134 rfl rfl rfl (iDec.2 hc13) (oMv rfl rfl)) <| sT rfl (dT z134 rfl rfl rfl (iDec.2 hc13) (oIAI rfl hx27 sF81 rfl rfl)) <| sT rfl (dT z134 rfl rfl rfl (iDec.2 hc13) (oFA (r' := .im 2 _) rfl fF209_0 rfl rfl)) <| sT rfl (dT z134 rfl rfl rfl (iDec.2 hc13) (oLd (cs := [.im 2 _]) rfl tF9 rfl rfl)) <| sT rfl (dT z134 rfl rfl rfl (iDec.2 hc13) (oBi rfl rfl rfl rfl)) <| sT rfl (dT z134 rfl rfl rfl (nF (Iff.rfl.2 hc12)) (oPkT rfl rfl (iDec.2 hc13) rfl)) <| sT rfl (dN z134 rfl (oPkF rfl rfl (nF (Iff.rfl.2 hc12)) rfl)) <| sD (by kernel_rfl))
          · rw [if_neg hc13] at hm15
            cases hm15
            exact sT rfl (dN z134 rfl (oMv rfl rfl)) <| sT rfl (dN z134 rfl (oMv rfl rfl)) <| sT rfl (dN z134 rfl (oIAI rfl hx12 sF81 rfl rfl)) <| sS (dN z134 rfl (oCa (xs := [.v false [.im 2 _]]) (vs := [(false, [.im 0 _])]) (v := .v false [.im 0 _]) (L_spec_l24One hx13) (.inl rfl) rfl kF216_311 rfl (ppC rfl pp0) rfl rfl pb0 rfl rfl rfl)) trivial (sT rfl (dN z134 rfl (oUn rfl rfl rfl)) <| sT rfl (dN z134 rfl (oMv rfl rfl)) <| sT rfl (dT z134 rfl rfl rfl (nF (Iff.rfl.2 hc12)) (oMv rfl rfl)) <| sT rfl (dT z134 rfl rfl rfl (nF (Iff.rfl.2 hc12)) (oBi rfl rfl rfl rfl)) <| sT rfl (dT z134 rfl rfl rfl (nF (Iff.rfl.2 hc12)) (oMv rfl rfl)) <| sT rfl (dF rfl rfl rfl (byF iDec hc13) rfl) <| sT rfl (dF rfl rfl rfl (byF iDec hc13) rfl) <| sT rfl (dF rfl rfl rfl (byF iDec hc13) rfl) <| sT rfl (dF rfl rfl rfl (byF iDec hc13) rfl) <| sT rfl (dF rfl rfl rfl (byF iDec hc13) rfl) <| sT rfl (dF rfl rfl rfl (byF iDec hc13) rfl) <| sT rfl (dF rfl rfl rfl (byF iDec hc13) rfl) <| sT rfl (dF rfl rfl rfl (byF iDec hc13) rfl) <| sT rfl (dF rfl rfl rfl (byF iDec hc13) rfl) <| sT rfl (dF rfl rfl rfl (byF iDec hc13) rfl) <| sT rfl (dF rfl rfl rfl (byF iDec hc13) rfl) <| sT rfl (dF rfl rfl rfl (byF iDec hc13) rfl) <| sT rfl (dT z134 rfl rfl rfl (nF (Iff.rfl.2 hc12)) (oPkF rfl rfl (byF iDec hc13) rfl)) <| sT rfl (dN z134 rfl (oPkF rfl rfl (nF (Iff.rfl.2 hc12)) rfl)) <| sD (by kernel_rfl))
        · rw [if_neg hc12] at hm15
          cases hm15
          exact sT rfl (dN z134 rfl (oMv rfl rfl)) <| sT rfl (dN z134 rfl (oMv rfl rfl)) <| sT rfl (dN z134 rfl (oIAI rfl hx12 sF81 rfl rfl)) <| sS (dN z134 rfl (oCa (xs := [.v false [.im 2 _]]) (vs := [(false, [.im 0 _])]) (v := .v false [.im 0 _]) (L_spec_l24One hx13) (.inl rfl) rfl kF216_311 rfl (ppC rfl pp0) rfl rfl pb0 rfl rfl rfl)) trivial (sT rfl (dN z134 rfl (oUn rfl rfl rfl)) <| sT rfl (dN z134 rfl (oMv rfl rfl)) <| sT rfl (dF rfl rfl rfl (nT (byF Iff.rfl hc12)) rfl) <| sT rfl (dF rfl rfl rfl (nT (byF Iff.rfl hc12)) rfl) <| sT rfl (dF rfl rfl rfl (nT (byF Iff.rfl hc12)) rfl) <| sT rfl (dU rfl rfl rfl rfl) <| sT rfl (dU rfl rfl rfl rfl) <| sT rfl (dU rfl rfl rfl rfl) <| sT rfl (dU rfl rfl rfl rfl) <| sT rfl (dU rfl rfl rfl rfl) <| sT rfl (dU rfl rfl rfl rfl) <| sT rfl (dU rfl rfl rfl rfl) <| sT rfl (dU rfl rfl rfl rfl) <| sT rfl (dU rfl rfl rfl rfl) <| sT rfl (dU rfl rfl rfl rfl) <| sT rfl (dU rfl rfl rfl rfl) <| sT rfl (dU rfl rfl rfl rfl) <| sT rfl (dF rfl rfl rfl (nT (byF Iff.rfl hc12)) rfl) <| sT rfl (dN z134 rfl (oPkT rfl rfl (nT (byF Iff.rfl hc12)) rfl)) <| sD (by kernel_rfl))
      · refine Unw.seq ?_
        by_cases hc14 : t_32_m4 = true
        · rw [if_pos hc14] at h
          refine Go.condT rfl (Iff.rfl.2 hc14) ?_
          refine Go.seq ?_
          refine Go.r0 c134 rfl rfl (sq z134 (oAsI rfl rfl) <| nl) ?_
          refine Unw.seq ?_
          refine Go.ret (Unw.ret ?_)
          cases h
          exact ⟨rfl, (fin_of rfl rF134 rfl (by kernel_rfl))⟩
        · rw [if_neg hc14] at h
          refine Go.condF rfl (byF Iff.rfl hc14) ?_
          refine Go.skip ?_
          refine Unw.blk ?_
          refine Unw.seq ?_
          refine Go.r0 c134 rfl rfl (sq z134 (oMv rfl rfl) <| sq z134 (oBi rfl rfl rfl rfl) <| sq z134 (oAsI rfl rfl) <| nl) ?_
          refine Unw.nil ?_
          cases h
          exact ⟨rfl, (by kernel_rfl)⟩
    · rw [if_neg hc11] at h
      refine Go.condF rfl (byF iDec hc11) ?_
      refine Go.exit ?_
      refine Unw.seqx ?_
      refine Unw.nil ?_
      cases h
      exact ⟨rfl, (by kernel_rfl)⟩
  · rintro ⟨e, st⟩ hp
    rcases o with u | r2
    · dsimp only at h
      obtain ⟨he, hst⟩ := hp
      obtain rfl : e = .exit 0 := he
      refine Unw.blkx ?_
      refine Unw.seq ?_
      refine Go.seq ?_
      refine Go.r1 c134 rfl rfl hst (sq z134 (oMv rfl rfl) <| sq z134 (oLnI rfl rfl uF81 rfl) <| sq z134 (oBi rfl rfl rfl rfl) <| sq z134 (oAsI rfl rfl) <| nl) ?_
      refine Unw.seq ?_
      refine Go.ret (Unw.ret ?_)
      cases h
      exact Fin_ret (fin_of rfl rF134 rfl (by kernel_rfl))
    · dsimp only at h
      obtain ⟨he, hfin⟩ := hp
      obtain rfl : e = .ret := he
      cases h
      exact Unw.ret (Fin_ret hfin)
theorem L_spec_l00Max {a_0 : Int} {b_1 : Int} {r : Int} (h : spec_l00Max a_0 b_1 = some r) : FL Try.prog cfg 258 [.im 2 false [.sc (.int .i64 a_0)], .im 2 false [.sc (.int .i64 b_1)]] = some ([(false, [.im 0 (.sc (.int .i64 r))])], []) := by
  unfold spec_l00Max at h
  refine FL_goS (A := [(0, .v false [.im 2 (.sc (.int .i64 a_0))]), (1, .v false [.im 2 (.sc (.int .i64 b_1))])]) (B := [(0, none), (1, none)]) (nt := 10) rfl rfl Try.func258 rfl rfl rfl rfl ?_
  refine Go.seq ?_
  refine Go.r0 c258 rfl rfl (sq z258 (oAsI rfl rfl) <| nl) ?_
  refine Unw.seq ?_
  refine Go.seq ?_
  refine Go.seq ?_
  refine Go.r0 c258 rfl rfl (sq z258 (oMv rfl rfl) <| sq z258 (oMv rfl rfl) <| sq z258 (oBi rfl rfl rfl rfl) <| nl) ?_
  refine Unw.seq ?_
  by_cases hc1 : a_0 > b_1
  · rw [if_pos hc1] at h
    refine Go.condT rfl (iDec.2 hc1) ?_
    refine Go.seq ?_
    refine Go.r0 c258 rfl rfl (sq z258 (oMv rfl rfl) <| sq z258 (oAsI rfl rfl) <| nl) ?_
    refine Unw.seq ?_
    refine Go.ret (Unw.ret ?_)
    cases h
    exact Fin_ret (fin_of rfl rF258 rfl (by kernel_rfl))
  · rw [if_neg hc1] at h
    refine Go.condF rfl (byF iDec hc1) ?_
    refine Go.skip ?_
    refine Unw.seq ?_
    refine Go.seq ?_
    refine Go.r0 c258 rfl rfl (sq z258 (oMv rfl rfl) <| sq z258 (oAsI rfl rfl) <| nl) ?_
    refine Unw.seq ?_
    refine Go.ret (Unw.ret ?_)
    cases h
    exact Fin_ret (fin_of rfl rF258 rfl (by kernel_rfl))
theorem L_spec_l24Times {list_0 : (List S_Bond)} {order_1 : (List Int)} {presses_2 : Int} {r : (List (List Int))} (h : spec_l24Times list_0 order_1 presses_2 = some r) : FL Try.prog cfg 218 [.im 2 false [.row 4 (List.map e_S_Bond list_0)], .im 2 false [.row 1 (List.map eI order_1)], .im 2 false [.sc (.int .i64 presses_2)]] = some ([(false, [.ow 0 1 (List.map (eL 1 eI) r)])], []) := by
  unfold spec_l24Times at h
  refine FL_goS (A := [(0, .v false [.im 2 (.row 4 (List.map e_S_Bond list_0))]), (1, .v false [.im 2 (.row 1 (List.map eI order_1))]), (2, .v false [.im 2 (.sc (.int .i64 presses_2))])]) (B := [(0, none), (1, none), (2, none)]) (nt := 88) rfl rfl Try.func218 rfl rfl rfl rfl ?_
  refine Go.seq ?_
  refine Go.r0 c218 rfl rfl (sq z218 (oAsN rfl rfl eF298) <| nl) ?_
  refine Unw.seq ?_
  refine Go.seq ?_
  obtain ⟨x17, hx17, h⟩ := bs h
  refine Go.r0 c218 rfl rfl (sq z218 (oMv rfl rfl) <| sq z218 (oMk (en := eI) rfl hx17 rfl sF27 rfl rfl (fxI fx0) rfl (flat0 (L := [_]) rfl fun _ => rfl)) <| sq z218 (oAsO rfl rfl rfl rfl rfl) <| nl) ?_
  refine Unw.seq ?_
  refine Go.seq ?_
  refine Go.r0 c218 rfl rfl (sq z218 (oAsI rfl rfl) <| nl) ?_
  refine Unw.seq ?_
  refine Go.seq ?_
  refine Go.r0 c218 rfl rfl (sq z218 (oBS (es := List.map (eL 1 eI) ([] : List (List Int))) rfl sF298 rfl pt0 (flat1 rfl)) <| sq z218 (oAsO rfl rfl rfl rfl rfl) <| nl) ?_
  refine Unw.seq ?_
  refine Go.seq ?_
  refine Go.seq ?_
  refine Go.r0 c218 rfl rfl (sq z218 (oAsI rfl rfl) <| nl) ?_
  refine Unw.seq ?_
  refine Go.block ?_
  obtain ⟨o, hl, h⟩ := bs h
  refine Go.lp c218 rfl _ (fun (s : (Int × Int × (List Int) × (List (List Int)))) => match s with | (worker_8_l5, i_10_l5, free_o7_l5, out_o9_l5) => mk [(0, .v false [.im 2 (.row 4 (List.map e_S_Bond list_0))]), (1, .v false [.im 2 (.row 1 (List.map eI order_1))]), (2, iv presses_2), (7, .v false [.own 7 0 0]), (8, iv worker_8_l5), (9, .v false [.own 9 0 0]), (10, iv i_10_l5)] [(7, some ⟨0, 0, false, false, false, false, [⟨.sh, 0, 0, .row 1 (List.map eI free_o7_l5)⟩]⟩), (9, some ⟨0, 0, false, false, false, false, [⟨.sh, 0, 0, .row 1 (List.map (eL 1 eI) out_o9_l5)⟩]⟩)]) (fun (out_o9_e0_5 : (List (List Int))) (p : Ex × St) => p.1 = .exit 0 ∧ p.2.norm ([9], [9]) = mk [(9, .v false [.own 9 0 0])] [(9, some ⟨0, 0, false, false, false, false, [⟨.sh, 0, 0, .row 1 (List.map (eL 1 eI) out_o9_e0_5)⟩]⟩)]) hl (by kernel_rfl) ?_ ?_ ?_
  · intro o p hp e
    exact nomatch (hp.1.symm.trans e)
  · rintro ⟨worker_8_l5, i_10_l5, free_o7_l5, out_o9_l5⟩ o h
    unfold spec_l24Times_l5 at h
    dsimp only at h
    refine Go.seq ?_
    refine Go.seq ?_
    refine Go.r0 c218 rfl rfl (sq z218 (oMv rfl rfl) <| sq z218 (oMv rfl rfl) <| sq z218 (oLnI rfl rfl uF27 rfl) <| sq z218 (oBi rfl rfl rfl rfl) <| nl) ?_
    refine Unw.seq ?_
    by_cases hc11 : i_10_l5 < (order_1.length : Int)
    · rw [if_pos hc11] at h
      refine Go.condT rfl (iDec.2 hc11) ?_
      refine Go.skip ?_
      refine Unw.seq ?_
      refine Go.seq ?_
      refine Go.block ?_
      refine Go.seq ?_
      obtain ⟨x28, hx28, h⟩ := bs h
      obtain ⟨x30, hx30, h⟩ := bs h
      refine Go.r0 c218 rfl rfl (sq z218 (oMv rfl rfl) <| sq z218 (oMv rfl rfl) <| sq z218 (oMv rfl rfl) <| sq z218 (oIAI rfl hx28 sF27 rfl rfl) <| sq z218 (oLd (cs := [.im 2 _]) rfl tF2 rfl rfl) <| sq z218 (oIAI rfl hx30 sF81 rfl rfl) <| sq z218 (oLd (cs := [.im 2 _, .im 2 _, .im 2 _, .im 2 _]) rfl tF209 rfl rfl) <| sq z218 (oAl rfl tF209 (tkI (tkI (tkI (tkI tk0))))) <| sq z218 (oSt tF209 rfl rfl rfl (tkI (tkI (tkI (tkI tk0)))) rfl rfl rfl) <| nl) ?_
      refine Unw.seq ?_
      refine Go.seq ?_
      refine Go.r1 c218 rfl rfl (st1 := mk [(0, .v false [.im 2 (.row 4 (List.map e_S_Bond list_0))]), (1, .v false [.im 2 (.row 1 (List.map eI order_1))]), (2, iv presses_2), (7, .v false [.own 7 0 0]), (8, iv worker_8_l5), (9, .v false [.own 9 0 0]), (10, iv i_10_l5), (11, .v false [.mp 11 0 0])] [(7, some ⟨0, 0, false, false, false, false, [⟨.sh, 0, 0, .row 1 (List.map eI free_o7_l5)⟩]⟩), (9, some ⟨0, 0, false, false, false, false, [⟨.sh, 0, 0, .row 1 (List.map (eL 1 eI) out_o9_l5)⟩]⟩), (11, some ⟨0, 0, false, true, false, true, [⟨.imm, 0, 0, .sc (.string x30.Name)⟩, ⟨.imm, 0, 0, .sc (.int .i64 x30.Spread)⟩, ⟨.imm, 0, 0, .sc (.int .i64 x30.Open)⟩, ⟨.imm, 0, 0, .sc (.int .i64 x30.Press)⟩]⟩)]) (by kernel_rfl) (sq z218 (oAsI rfl rfl) <| nl) ?_
      refine Unw.seq ?_
      refine Go.seq ?_
      refine Go.seq ?_
      refine Go.r0 c218 rfl rfl (sq z218 (oAsI rfl rfl) <| nl) ?_
      refine Unw.seq ?_
      refine Go.block ?_
      obtain ⟨o, hl, h⟩ := bs h
      refine Go.lp c218 rfl _ (fun (s : (Int × Int)) => match s with | (press_12_l10, k_13_l10) => mk [(0, .v false [.im 2 (.row 4 (List.map e_S_Bond list_0))]), (1, .v false [.im 2 (.row 1 (List.map eI order_1))]), (2, iv presses_2), (7, .v false [.own 7 0 0]), (8, iv worker_8_l5), (9, .v false [.own 9 0 0]), (10, iv i_10_l5), (11, .v false [.mp 11 0 0]), (12, iv press_12_l10), (13, iv k_13_l10)] [(7, some ⟨0, 0, false, false, false, false, [⟨.sh, 0, 0, .row 1 (List.map eI free_o7_l5)⟩]⟩), (9, some ⟨0, 0, false, false, false, false, [⟨.sh, 0, 0, .row 1 (List.map (eL 1 eI) out_o9_l5)⟩]⟩), (11, some ⟨0, 0, false, true, false, true, [⟨.imm, 0, 0, .sc (.string x30.Name)⟩, ⟨.imm, 0, 0, .sc (.int .i64 x30.Spread)⟩, ⟨.imm, 0, 0, .sc (.int .i64 x30.Open)⟩, ⟨.imm, 0, 0, .sc (.int .i64 x30.Press)⟩]⟩)]) (fun (press_12_e2_10 : Int) (p : Ex × St) => p.1 = .exit 2 ∧ p.2.norm ([0, 1, 2, 7, 8, 9, 10, 11, 12], [7, 9, 11]) = mk [(0, .v false [.im 2 (.row 4 (List.map e_S_Bond list_0))]), (1, .v false [.im 2 (.row 1 (List.map eI order_1))]), (2, iv presses_2), (7, .v false [.own 7 0 0]), (8, iv worker_8_l5), (9, .v false [.own 9 0 0]), (10, iv i_10_l5), (11, .v false [.mp 11 0 0]), (12, iv press_12_e2_10)] [(7, some ⟨0, 0, false, false, false, false, [⟨.sh, 0, 0, .row 1 (List.map eI free_o7_l5)⟩]⟩), (9, some ⟨0, 0, false, false, false, false, [⟨.sh, 0, 0, .row 1 (List.map (eL 1 eI) out_o9_l5)⟩]⟩), (11, some ⟨0, 0, false, true, false, true, [⟨.imm, 0, 0, .sc (.string x30.Name)⟩, ⟨.imm, 0, 0, .sc (.int .i64 x30.Spread)⟩, ⟨.imm, 0, 0, .sc (.int .i64 x30.Open)⟩, ⟨.imm, 0, 0, .sc (.int .i64 x30.Press)⟩]⟩)]) hl (by kernel_rfl) ?_ ?_ ?_
      · intro o p hp e
        exact nomatch (hp.1.symm.trans e)
      · rintro ⟨press_12_l10, k_13_l10⟩ o h
        unfold spec_l24Times_l10 at h
        dsimp only at h
        refine Go.seq ?_
        refine Go.seq ?_
        refine Go.r0 c218 rfl rfl (sq z218 (oMv rfl rfl) <| sq z218 (oMv rfl rfl) <| sq z218 (oBi rfl rfl rfl rfl) <| nl) ?_
        refine Unw.seq ?_
        by_cases hc16 : k_13_l10 < presses_2
        · rw [if_pos hc16] at h
          refine Go.condT rfl (iDec.2 hc16) ?_
          refine Go.skip ?_
          refine Unw.seq ?_
          refine Go.seq ?_
          refine Go.join (fun st => ∃ press_12_r11, spec_l24Times_k11 k_13_l10 press_12_r11 = some o ∧ st.norm ([0, 1, 2, 7, 8, 9, 10, 11, 12, 13], [7, 9, 11]) = mk [(0, .v false [.im 2 (.row 4 (List.map e_S_Bond list_0))]), (1, .v false [.im 2 (.row 1 (List.map eI order_1))]), (2, iv presses_2), (7, .v false [.own 7 0 0]), (8, iv worker_8_l5), (9, .v false [.own 9 0 0]), (10, iv i_10_l5), (11, .v false [.mp 11 0 0]), (12, iv press_12_r11), (13, iv k_13_l10)] [(7, some ⟨0, 0, false, false, false, false, [⟨.sh, 0, 0, .row 1 (List.map eI free_o7_l5)⟩]⟩), (9, some ⟨0, 0, false, false, false, false, [⟨.sh, 0, 0, .row 1 (List.map (eL 1 eI) out_o9_l5)⟩]⟩), (11, some ⟨0, 0, false, true, false, true, [⟨.imm, 0, 0, .sc (.string x30.Name)⟩, ⟨.imm, 0, 0, .sc (.int .i64 x30.Spread)⟩, ⟨.imm, 0, 0, .sc (.int .i64 x30.Open)⟩, ⟨.imm, 0, 0, .sc (.int .i64 x30.Press)⟩]⟩)]) ?_ ?_
          · rintro st ⟨press_12_r11, h, hst⟩
            unfold spec_l24Times_k11 at h
            refine Unw.seq ?_
            refine Go.r1 c218 rfl rfl hst (sq z218 (oMv rfl rfl) <| sq z218 (oBi rfl rfl rfl rfl) <| sq z218 (oAsI rfl rfl) <| nl) ?_
            refine Unw.nil ?_
            cases h
            exact ⟨rfl, (by kernel_rfl)⟩
          · intro K18
            refine Go.block ?_
            refine Go.seq ?_
            obtain ⟨x39, hx39, h⟩ := bs h
            obtain ⟨x43, hx43, h⟩ := bs h
            refine Go.dr c218 rfl rfl rfl rfl (mk [(0, .v false [.im 2 (.row 4 (List.map e_S_Bond list_0))]), (1, .v false [.im 2 (.row 1 (List.map eI order_1))]), (2, iv presses_2), (7, .v false [.own 7 0 0]), (8, iv worker_8_l5), (9, .v false [.own 9 0 0]), (10, iv i_10_l5), (11, .v false [.mp 11 0 0]), (12, iv press_12_l10), (13, iv k_13_l10), (45, bv (decide (x39 < x43)))] [(7, some ⟨0, 0, false, false, false, false, [⟨.sh, 0, 0, .row 1 (List.map eI free_o7_l5)⟩]⟩), (9, some ⟨0, 0, false, false, false, false, [⟨.sh, 0, 0, .row 1 (List.map (eL 1 eI) out_o9_l5)⟩]⟩), (11, some ⟨0, 0, false, true, false, true, [⟨.imm, 0, 0, .sc (.string x30.Name)⟩, ⟨.imm, 0, 0, .sc (.int .i64 x30.Spread)⟩, ⟨.imm, 0, 0, .sc (.int .i64 x30.Open)⟩, ⟨.imm, 0, 0, .sc (.int .i64 x30.Press)⟩]⟩)]) (sT rfl (dN z218 rfl (oMv rfl rfl)) <| sT rfl (dN z218 rfl (oMv rfl rfl)) <| sT rfl (dN z218 rfl (oIAO rfl hx39 sF27 rfl rfl rfl rfl)) <| sT rfl (dN z218 rfl (oLdE (cs := [.im 0 _]) rfl tF2 rfl rfl rfl (fun e => nomatch e) (rd_get hx39) rfl rfl)) <| sT rfl (dN z218 rfl (oMv rfl rfl)) <| sT rfl (dN z218 rfl (oMv rfl rfl)) <| sT rfl (dN z218 rfl (oIAO rfl hx43 sF27 rfl rfl rfl rfl)) <| sT rfl (dN z218 rfl (oLdE (cs := [.im 0 _]) rfl tF2 rfl rfl rfl (fun e => nomatch e) (rd_get hx43) rfl rfl)) <| sT rfl (dN z218 rfl (oBi rfl rfl rfl rfl)) <| sD (by kernel_rfl)) ?_
            refine Unw.seq ?_
            by_cases hc19 : x39 < x43
            · rw [if_pos hc19] at h
              refine Go.condT rfl (iDec.2 hc19) ?_
              refine Go.r0 c218 rfl rfl (sq z218 (oMv rfl rfl) <| sq z218 (oAsI rfl rfl) <| nl) ?_
              refine Unw.blk ?_
              exact K18 _ ⟨k_13_l10, h, (by kernel_rfl)⟩
            · rw [if_neg hc19] at h
              refine Go.condF rfl (byF iDec hc19) ?_
              refine Go.skip ?_
              refine Unw.blk ?_
              exact K18 _ ⟨press_12_l10, h, (by kernel_rfl)⟩
        · rw [if_neg hc16] at h
          refine Go.condF rfl (byF iDec hc16) ?_
          refine Go.exit ?_
          refine Unw.seqx ?_
          refine Unw.nil ?_
          cases h
          exact ⟨rfl, (by kernel_rfl)⟩
      · rintro ⟨e, st⟩ hp
        obtain ⟨press_12_e2_10, rfl⟩ : ∃ y, y = o := ⟨o, rfl⟩
        obtain ⟨he, hst⟩ := hp
        obtain rfl : e = .exit 2 := he
        refine Unw.blkx ?_
        refine Unw.seq ?_
        refine Go.seq ?_
        obtain ⟨x50, hx50, h⟩ := bs h
        obtain ⟨x55, hx55, h⟩ := bs h
        refine Go.dr c218 rfl rfl rfl hst (mk [(0, .v false [.im 2 (.row 4 (List.map e_S_Bond list_0))]), (1, .v false [.im 2 (.row 1 (List.map eI order_1))]), (2, iv presses_2), (7, .v false [.own 7 0 0]), (9, .v false [.own 9 0 0]), (10, iv i_10_l5), (11, .v false [.mp 11 0 0]), (12, iv press_12_e2_10), (14, iv x55)] [(7, some ⟨0, 0, false, false, false, false, [⟨.sh, 0, 0, .row 1 (List.map eI free_o7_l5)⟩]⟩), (9, some ⟨0, 0, false, false, false, false, [⟨.sh, 0, 0, .row 1 (List.map (eL 1 eI) out_o9_l5)⟩]⟩), (11, some ⟨0, 0, false, true, false, true, [⟨.imm, 0, 0, .sc (.string x30.Name)⟩, ⟨.imm, 0, 0, .sc (.int .i64 x30.Spread)⟩, ⟨.imm, 0, 0, .sc (.int .i64 x30.Open)⟩, ⟨.imm, 0, 0, .sc (.int .i64 x30.Press)⟩]⟩)]) (sT rfl (dN z218 rfl (oMv rfl rfl)) <| sT rfl (dN z218 rfl (oMv rfl rfl)) <| sT rfl (dN z218 rfl (oMv rfl rfl)) <| sT rfl (dN z218 rfl (oIAO rfl hx50 sF27 rfl rfl rfl rfl)) <| sT rfl (dN z218 rfl (oLdE (cs := [.im 0 _]) rfl tF2 rfl rfl rfl (fun e => nomatch e) (rd_get hx50) rfl rfl)) <| sT rfl (dN z218 rfl (oFA (r' := .mp 11 0 2) rfl fF209_2 rfl rfl)) <| sT rfl (dN z218 rfl (oLd (cs := [.im 0 _]) rfl tF2 rfl rfl)) <| sT rfl (dN z218 rfl (oBi rfl rfl rfl rfl)) <| sS (dN z218 rfl (oCa (xs := [.v false [.im 0 _], .v false [.im 0 _]]) (vs := [(false, [.im 0 _])]) (v := .v false [.im 0 _]) (L_spec_l00Max hx55) (.inl rfl) rfl kF258_2_2 rfl (ppC rfl (ppC rfl pp0)) rfl rfl pb0 rfl rfl rfl)) trivial (sS (dN z218 rfl (oAsI rfl rfl)) trivial (sD (by kernel_rfl)))) ?_
        refine Unw.seq ?_
        refine Go.seq ?_
        obtain ⟨x62, hx62, h⟩ := bs h
        obtain ⟨x64, hx64, h⟩ := bs h
        refine Go.dr c218 rfl rfl rfl rfl (mk [(0, .v false [.im 2 (.row 4 (List.map e_S_Bond list_0))]), (1, .v false [.im 2 (.row 1 (List.map eI order_1))]), (2, iv presses_2), (7, .v false [.own 7 0 0]), (9, .v false [.own 9 0 0]), (10, iv i_10_l5), (11, .v false [.mp 11 0 0]), (12, iv press_12_e2_10), (14, iv x55), (15, iv x64)] [(7, some ⟨0, 0, false, false, false, false, [⟨.sh, 0, 0, .row 1 (List.map eI free_o7_l5)⟩]⟩), (9, some ⟨0, 0, false, false, false, false, [⟨.sh, 0, 0, .row 1 (List.map (eL 1 eI) out_o9_l5)⟩]⟩), (11, some ⟨0, 0, false, true, false, true, [⟨.imm, 0, 0, .sc (.string x30.Name)⟩, ⟨.imm, 0, 0, .sc (.int .i64 x30.Spread)⟩, ⟨.imm, 0, 0, .sc (.int .i64 x30.Open)⟩, ⟨.imm, 0, 0, .sc (.int .i64 x30.Press)⟩]⟩)]) (sT rfl (dN z218 rfl (oMv rfl rfl)) <| sT rfl (dN z218 rfl (oFA (r' := .mp 11 0 1) rfl fF209_1 rfl rfl)) <| sT rfl (dN z218 rfl (oLd (cs := [.im 0 _]) rfl tF2 rfl rfl)) <| sT rfl (dN z218 rfl (oBi rfl rfl rfl rfl)) <| sT rfl (dN z218 rfl (oMv rfl rfl)) <| sT rfl (dN z218 rfl (oMv rfl rfl)) <| sT rfl (dN z218 rfl (oIAO rfl hx62 sF27 rfl rfl rfl rfl)) <| sT rfl (dN z218 rfl (oLdE (cs := [.im 0 _]) rfl tF2 rfl rfl rfl (fun e => nomatch e) (rd_get hx62) rfl rfl)) <| sS (dN z218 rfl (oCa (xs := [.v false [.im 0 _], .v false [.im 0 _]]) (vs := [(false, [.im 0 _])]) (v := .v false [.im 0 _]) (L_spec_l00Max hx64) (.inl rfl) rfl kF258_2_2 rfl (ppC rfl (ppC rfl pp0)) rfl rfl pb0 rfl rfl rfl)) trivial (sS (dN z218 rfl (oAsI rfl rfl)) trivial (sD (by kernel_rfl)))) ?_
        refine Unw.seq ?_
        refine Go.seq ?_
        refine Go.r0 c218 rfl rfl (sq z218 (oMv rfl rfl) <| sq z218 (oFA (r' := .mp 11 0 1) rfl fF209_1 rfl rfl) <| sq z218 (oLd (cs := [.im 0 _]) rfl tF2 rfl rfl) <| sq z218 (oBi rfl rfl rfl rfl) <| sq z218 (oAsI rfl rfl) <| nl) ?_
        refine Unw.seq ?_
        refine Go.seq ?_
        obtain ⟨x75, hx75, h⟩ := bs h
        refine Go.r0 c218 rfl rfl (sq z218 (oMv rfl rfl) <| sq z218 (oMv rfl rfl) <| sq z218 (oMv rfl rfl) <| sq z218 (oFA (r' := .mp 11 0 3) rfl fF209_3 rfl rfl) <| sq z218 (oLd (cs := [.im 0 _]) rfl tF2 rfl rfl) <| sq z218 (oBi rfl rfl rfl rfl) <| sq z218 (oIAO rfl hx75 sF27 rfl rfl rfl rfl) <| sq z218 (oStE (v' := (w64 (x64 + x30.Press))) tF2 rfl rfl rfl (fxI fx0) rfl rfl (rd_get hx75) rfl) <| nl) ?_
        refine Unw.seq ?_
        obtain ⟨x86, hx86, h⟩ := bs h
        refine Go.r1 c218 rfl rfl (st1 := mk [(0, .v false [.im 2 (.row 4 (List.map e_S_Bond list_0))]), (1, .v false [.im 2 (.row 1 (List.map eI order_1))]), (2, iv presses_2), (7, .v false [.own 7 0 0]), (8, iv (w64 (x55 + x30.Spread))), (9, .v false [.own 9 0 0]), (10, iv i_10_l5), (11, .v false [.mp 11 0 0]), (12, iv press_12_e2_10), (14, iv x55), (15, iv x64)] [(7, some ⟨0, 0, false, false, false, false, [⟨.sh, 0, 0, .row 1 (List.map eI (free_o7_l5.set press_12_e2_10.toNat (w64 (x64 + x30.Press))))⟩]⟩), (9, some ⟨0, 0, false, false, false, false, [⟨.sh, 0, 0, .row 1 (List.map (eL 1 eI) out_o9_l5)⟩]⟩), (11, some ⟨0, 0, false, true, false, true, [⟨.imm, 0, 0, .sc (.string x30.Name)⟩, ⟨.imm, 0, 0, .sc (.int .i64 x30.Spread)⟩, ⟨.imm, 0, 0, .sc (.int .i64 x30.Open)⟩, ⟨.imm, 0, 0, .sc (.int .i64 x30.Press)⟩]⟩)]) (by kernel_rfl) (sq z218 (oMv rfl rfl) <| sq z218 (oMv rfl rfl) <| sq z218 (oMv rfl rfl) <| sq z218 (oMv rfl rfl) <| sq z218 (oMv rfl rfl) <| sq z218 (oFA (r' := .mp 11 0 3) rfl fF209_3 rfl rfl) <| sq z218 (oLd (cs := [.im 0 _]) rfl tF2 rfl rfl) <| sq z218 (oBi rfl rfl rfl rfl) <| sq z218 (oBS (es := List.map eI ([x55, press_12_e2_10, x64, (w64 (x64 + x30.Press))] : List Int)) rfl sF27 rfl (ptC rfl (fxI fx0) rfl (ptC rfl (fxI fx0) rfl (ptC rfl (fxI fx0) rfl (ptC rfl (fxI fx0) rfl pt0)))) (flat0 rfl fun _ => rfl)) <| sq z218 (oBS (es := List.map (eL 1 eI) ([([x55, press_12_e2_10, x64, (w64 (x64 + x30.Press))] : List Int)] : List (List Int))) rfl sF298 rfl (ptC rfl (fxO rfl rfl fx0) rfl pt0) (flat1 rfl)) <| sq z218 (oApO (en := (eL 1 eI)) (M := ([([x55, press_12_e2_10, x64, (w64 (x64 + x30.Press))] : List Int)] : List (List Int))) rfl hx86 rfl sF298 rfl rfl uF298 (.inl ⟨_, rfl⟩) rfl rfl rfl rfl (el_own rfl rfl) (flat1 rfl)) <| sq z218 (oAsO rfl rfl rfl rfl rfl) <| nl) ?_
        refine Unw.blk ?_
        refine Unw.seq ?_
        refine Go.r0 c218 rfl rfl (sq z218 (oMv rfl rfl) <| sq z218 (oBi rfl rfl rfl rfl) <| sq z218 (oAsI rfl rfl) <| nl) ?_
        refine Unw.nil ?_
        cases h
        exact ⟨rfl, (by kernel_rfl)⟩
    · rw [if_neg hc11] at h
      refine Go.condF rfl (byF iDec hc11) ?_
      refine Go.exit ?_
      refine Unw.seqx ?_
      refine Unw.nil ?_
      cases h
      exact ⟨rfl, (by kernel_rfl)⟩
  · rintro ⟨e, st⟩ hp
    obtain ⟨out_o9_e0_5, rfl⟩ : ∃ y, y = o := ⟨o, rfl⟩
    obtain ⟨he, hst⟩ := hp
    obtain rfl : e = .exit 0 := he
    refine Unw.blkx ?_
    refine Unw.seq ?_
    refine Go.seq ?_
    refine Go.r1 c218 rfl rfl hst (sq z218 (oMv rfl rfl) <| sq z218 (oAsO rfl rfl rfl rfl rfl) <| nl) ?_
    refine Unw.seq ?_
    refine Go.ret (Unw.ret ?_)
    cases h
    exact Fin_ret (fin_of rfl rF218 rfl (by kernel_rfl))
theorem L_spec_l24End {times_0 : (List (List Int))} {r : Int} (h : spec_l24End times_0 = some r) : FL Try.prog cfg 217 [.im 2 false [.row 1 (List.map (eL 1 eI) times_0)]] = some ([(false, [.im 0 (.sc (.int .i64 r))])], []) := by
  unfold spec_l24End at h
  refine FL_goS (A := [(0, .v false [.im 2 (.row 1 (List.map (eL 1 eI) times_0))])]) (B := [(0, none)]) (nt := 20) rfl rfl Try.func217 rfl rfl rfl rfl ?_
  refine Go.seq ?_
  refine Go.r0 c217 rfl rfl (sq z217 (oAsI rfl rfl) <| nl) ?_
  refine Unw.seq ?_
  refine Go.seq ?_
  refine Go.r0 c217 rfl rfl (sq z217 (oAsI rfl rfl) <| nl) ?_
  refine Unw.seq ?_
  refine Go.seq ?_
  refine Go.seq ?_
  refine Go.r0 c217 rfl rfl (sq z217 (oAsI rfl rfl) <| nl) ?_
  refine Unw.seq ?_
  refine Go.block ?_
  obtain ⟨o, hl, h⟩ := bs h
  refine Go.lp c217 rfl _ (fun (s : (Int × Int)) => match s with | (end_3_l3, i_4_l3) => mk [(0, .v false [.im 2 (.row 1 (List.map (eL 1 eI) times_0))]), (3, iv end_3_l3), (4, iv i_4_l3)] []) (fun (end_3_e0_3 : Int) (p : Ex × St) => p.1 = .exit 0 ∧ p.2.norm ([3], []) = mk [(3, iv end_3_e0_3)] []) hl (by kernel_rfl) ?_ ?_ ?_
  · intro o p hp e
    exact nomatch (hp.1.symm.trans e)
  · rintro ⟨end_3_l3, i_4_l3⟩ o h
    unfold spec_l24End_l3 at h
    dsimp only at h
    refine Go.seq ?_
    refine Go.seq ?_
    refine Go.r0 c217 rfl rfl (sq z217 (oMv rfl rfl) <| sq z217 (oMv rfl rfl) <| sq z217 (oLnI rfl rfl uF298 rfl) <| sq z217 (oBi rfl rfl rfl rfl) <| nl) ?_
    refine Unw.seq ?_
    by_cases hc3 : i_4_l3 < (times_0.length : Int)
    · rw [if_pos hc3] at h
      refine Go.condT rfl (iDec.2 hc3) ?_
      refine Go.skip ?_
      refine Unw.seq ?_
      refine Go.seq ?_
      refine Go.block ?_
      obtain ⟨x14, hx14, h⟩ := bs h
      obtain ⟨x16, hx16, h⟩ := bs h
      obtain ⟨x18, hx18, h⟩ := bs h
      refine Go.r0 c217 rfl rfl (sq z217 (oMv rfl rfl) <| sq z217 (oMv rfl rfl) <| sq z217 (oMv rfl rfl) <| sq z217 (oIAI rfl hx14 sF298 rfl rfl) <| sq z217 (oLd (cs := [.im 2 _]) rfl tF27 rfl rfl) <| sq z217 (oIAI rfl hx16 sF27 rfl rfl) <| sq z217 (oLd (cs := [.im 2 _]) rfl tF2 rfl rfl) <| sq z217 (oCa (xs := [.v false [.im 0 _], .v false [.im 2 _]]) (vs := [(false, [.im 0 _])]) (v := .v false [.im 0 _]) (L_spec_l00Max hx18) (.inl rfl) rfl kF258_2_2 rfl (ppC rfl (ppC rfl pp0)) rfl rfl pb0 rfl rfl rfl) <| sq z217 (oAsI rfl rfl) <| nl) ?_
      refine Unw.blk ?_
      refine Unw.seq ?_
      refine Go.r0 c217 rfl rfl (sq z217 (oMv rfl rfl) <| sq z217 (oBi rfl rfl rfl rfl) <| sq z217 (oAsI rfl rfl) <| nl) ?_
      refine Unw.nil ?_
      cases h
      exact ⟨rfl, (by kernel_rfl)⟩
    · rw [if_neg hc3] at h
      refine Go.condF rfl (byF iDec hc3) ?_
      refine Go.exit ?_
      refine Unw.seqx ?_
      refine Unw.nil ?_
      cases h
      exact ⟨rfl, (by kernel_rfl)⟩
  · rintro ⟨e, st⟩ hp
    obtain ⟨end_3_e0_3, rfl⟩ : ∃ y, y = o := ⟨o, rfl⟩
    obtain ⟨he, hst⟩ := hp
    obtain rfl : e = .exit 0 := he
    refine Unw.blkx ?_
    refine Unw.seq ?_
    refine Go.seq ?_
    refine Go.r1 c217 rfl rfl hst (sq z217 (oMv rfl rfl) <| sq z217 (oAsI rfl rfl) <| nl) ?_
    refine Unw.seq ?_
    refine Go.ret (Unw.ret ?_)
    cases h
    exact Fin_ret (fin_of rfl rF217 rfl (by kernel_rfl))
theorem L_spec_l00Own {list_0 : (List Int)} {r : (List Int)} (h : spec_l00Own list_0 = some r) : FL Try.prog cfg 105 [.im 2 false [.row 1 (List.map eI list_0)]] = some ([(false, [.ow 0 1 (List.map eI r)])], []) := by
  unfold spec_l00Own at h
  refine FL_goS (A := [(0, .v false [.im 2 (.row 1 (List.map eI list_0))])]) (B := [(0, none)]) (nt := 6) rfl rfl Try.func105 rfl rfl rfl rfl ?_
  refine Go.seq ?_
  refine Go.r0 c105 rfl rfl (sq z105 (oAsN rfl rfl eF27) <| nl) ?_
  refine Unw.seq ?_
  refine Go.seq ?_
  obtain ⟨x5, hx5, h⟩ := bs h
  refine Go.r0 c105 rfl rfl (sq z105 (oBS (es := List.map eI ([] : List Int)) rfl sF27 rfl pt0 (flat0 rfl fun _ => rfl)) <| sq z105 (oMv rfl rfl) <| sq z105 (oApO (en := eI) (M := list_0) rfl hx5 rfl sF27 rfl rfl uF27 (.inl ⟨_, rfl⟩) rfl rfl rfl rfl el_im (flat0 rfl fun _ => rfl)) <| sq z105 (oAsO rfl rfl rfl rfl rfl) <| nl) ?_
  refine Unw.seq ?_
  refine Go.ret (Unw.ret ?_)
  cases h
  exact Fin_ret (fin_of rfl rF105 rfl (by kernel_rfl))
theorem L_spec_l00Has {list_0 : (List Int)} {n_1 : Int} {r : Bool} (h : spec_l00Has list_0 n_1 = some r) : FL Try.prog cfg 214 [.im 2 false [.row 1 (List.map eI list_0)], .im 2 false [.sc (.int .i64 n_1)]] = some ([(false, [.im 0 (.sc (.bool r))])], []) := by
  unfold spec_l00Has at h
  refine FL_goS (A := [(0, .v false [.im 2 (.row 1 (List.map eI list_0))]), (1, .v false [.im 2 (.sc (.int .i64 n_1))])]) (B := [(0, none), (1, none)]) (nt := 18) rfl rfl Try.func214 rfl rfl rfl rfl ?_
  refine Go.seq ?_
  refine Go.r0 c214 rfl rfl (sq z214 (oAsI rfl rfl) <| nl) ?_
  refine Unw.seq ?_
  refine Go.seq ?_
  refine Go.seq ?_
  refine Go.r0 c214 rfl rfl (sq z214 (oAsI rfl rfl) <| nl) ?_
  refine Unw.seq ?_
  refine Go.block ?_
  obtain ⟨o, hl, h⟩ := bs h
  refine Go.lp c214 rfl _ (fun (i_5_l2 : Int) => mk [(0, .v false [.im 2 (.row 1 (List.map eI list_0))]), (1, iv n_1), (5, iv i_5_l2)] []) (fun (o : (Unit ⊕ Bool)) (p : Ex × St) => match o with | (.inl _) => p.1 = .exit 0 ∧ p.2.norm ([], []) = mk [] [] | (.inr r2) => p.1 = .ret ∧ fin Try.prog cfg 214 Try.f214 [.im 2 false [.row 1 (List.map eI list_0)], .im 2 false [.sc (.int .i64 n_1)]] p.2 = some ([(false, [.im 0 (.sc (.bool r2))])], [])) hl (by kernel_rfl) ?_ ?_ ?_
  · intro o p hp e
    rcases o with u | r2 <;> exact nomatch (hp.1.symm.trans e)
  · rintro i_5_l2 o h
    unfold spec_l00Has_l2 at h
    refine Go.seq ?_
    refine Go.seq ?_
    refine Go.r0 c214 rfl rfl (sq z214 (oMv rfl rfl) <| sq z214 (oMv rfl rfl) <| sq z214 (oLnI rfl rfl uF27 rfl) <| sq z214 (oBi rfl rfl rfl rfl) <| nl) ?_
    refine Unw.seq ?_
    by_cases hc5 : i_5_l2 < (list_0.length : Int)
    · rw [if_pos hc5] at h
      refine Go.condT rfl (iDec.2 hc5) ?_
      refine Go.skip ?_
      refine Unw.seq ?_
      refine Go.seq ?_
      refine Go.block ?_
      refine Go.seq ?_
      obtain ⟨x14, hx14, h⟩ := bs h
      refine Go.r0 c214 rfl rfl (sq z214 (oMv rfl rfl) <| sq z214 (oMv rfl rfl) <| sq z214 (oIAI rfl hx14 sF27 rfl rfl) <| sq z214 (oLd (cs := [.im 2 _]) rfl tF2 rfl rfl) <| sq z214 (oMv rfl rfl) <| sq z214 (oBi rfl rfl rfl rfl) <| nl) ?_
      refine Unw.seq ?_
      by_cases hc6 : x14 = n_1
      · rw [if_pos hc6] at h
        refine Go.condT rfl (iEq.2 hc6) ?_
        refine Go.seq ?_
        refine Go.r0 c214 rfl rfl (sq z214 (oAsI rfl rfl) <| nl) ?_
        refine Unw.seq ?_
        refine Go.ret (Unw.ret ?_)
        cases h
        exact ⟨rfl, (fin_of rfl rF214 rfl (by kernel_rfl))⟩
      · rw [if_neg hc6] at h
        refine Go.condF rfl (byF iEq hc6) ?_
        refine Go.skip ?_
        refine Unw.blk ?_
        refine Unw.seq ?_
        refine Go.r0 c214 rfl rfl (sq z214 (oMv rfl rfl) <| sq z214 (oBi rfl rfl rfl rfl) <| sq z214 (oAsI rfl rfl) <| nl) ?_
        refine Unw.nil ?_
        cases h
        exact ⟨rfl, (by kernel_rfl)⟩
    · rw [if_neg hc5] at h
      refine Go.condF rfl (byF iDec hc5) ?_
      refine Go.exit ?_
      refine Unw.seqx ?_
      refine Unw.nil ?_
      cases h
      exact ⟨rfl, (by kernel_rfl)⟩
  · rintro ⟨e, st⟩ hp
    rcases o with u | r2
    · dsimp only at h
      obtain ⟨he, hst⟩ := hp
      obtain rfl : e = .exit 0 := he
      refine Unw.blkx ?_
      refine Unw.seq ?_
      refine Go.seq ?_
      refine Go.r1 c214 rfl rfl hst (sq z214 (oAsI rfl rfl) <| nl) ?_
      refine Unw.seq ?_
      refine Go.ret (Unw.ret ?_)
      cases h
      exact Fin_ret (fin_of rfl rF214 rfl (by kernel_rfl))
    · dsimp only at h
      obtain ⟨he, hfin⟩ := hp
      obtain rfl : e = .ret := he
      cases h
      exact Unw.ret (Fin_ret hfin)
theorem L_spec_l24Search_run_F {self : S_l24Search → Option S_l24Search} (ih : ∀ {x_0 : S_l24Search} {r : S_l24Search}, self x_0 = some r → FL Try.prog cfg 135 [.ptr true [(.imm, .row 4 (List.map e_S_Bond x_0.list)), (.imm, .sc (.int .i64 x_0.presses)), (.sh, .row 1 (List.map eI x_0.order)), (.sh, .row 1 (List.map eI x_0.best)), (.imm, .sc (.int .i64 x_0.least)), (.imm, .sc (.int .i64 x_0.nodes)), (.imm, .sc (.int .i64 x_0.budget)), (.imm, .sc (.bool x_0.full))]] = some ([], [.ptr true [(.imm, .row 4 (List.map e_S_Bond r.list)), (.imm, .sc (.int .i64 r.presses)), (.sh, .row 1 (List.map eI r.order)), (.sh, .row 1 (List.map eI r.best)), (.imm, .sc (.int .i64 r.least)), (.imm, .sc (.int .i64 r.nodes)), (.imm, .sc (.int .i64 r.budget)), (.imm, .sc (.bool r.full))]])) {x_0 : S_l24Search} {r : S_l24Search} (h : spec_l24Search_run_F self x_0 = some r) : FL Try.prog cfg 135 [.ptr true [(.imm, .row 4 (List.map e_S_Bond x_0.list)), (.imm, .sc (.int .i64 x_0.presses)), (.sh, .row 1 (List.map eI x_0.order)), (.sh, .row 1 (List.map eI x_0.best)), (.imm, .sc (.int .i64 x_0.least)), (.imm, .sc (.int .i64 x_0.nodes)), (.imm, .sc (.int .i64 x_0.budget)), (.imm, .sc (.bool x_0.full))]] = some ([], [.ptr true [(.imm, .row 4 (List.map e_S_Bond r.list)), (.imm, .sc (.int .i64 r.presses)), (.sh, .row 1 (List.map eI r.order)), (.sh, .row 1 (List.map eI r.best)), (.imm, .sc (.int .i64 r.least)), (.imm, .sc (.int .i64 r.nodes)), (.imm, .sc (.int .i64 r.budget)), (.imm, .sc (.bool r.full))]]) := by
  unfold spec_l24Search_run_F at h
  refine FL_goS (A := [(0, .v false [.mp 0 0 0])]) (B := [(0, some ⟨0, 0, true, true, false, true, [⟨.imm, 0, 1, .row 4 (List.map e_S_Bond x_0.list)⟩, ⟨.imm, 0, 0, .sc (.int .i64 x_0.presses)⟩, ⟨.sh, 0, 0, .row 1 (List.map eI x_0.order)⟩, ⟨.sh, 0, 0, .row 1 (List.map eI x_0.best)⟩, ⟨.imm, 0, 0, .sc (.int .i64 x_0.least)⟩, ⟨.imm, 0, 0, .sc (.int .i64 x_0.nodes)⟩, ⟨.imm, 0, 0, .sc (.int .i64 x_0.budget)⟩, ⟨.imm, 0, 0, .sc (.bool x_0.full)⟩]⟩)]) (nt := 133) rfl rfl Try.func135 rfl rfl rfl rfl ?_
  refine Go.seq ?_
  refine Go.seq ?_
  refine Go.dr c135 rfl rfl rfl rfl (mk [(0, .v false [.mp 0 0 0]), (14, bv ((x_0.order.length : Int) == (x_0.list.length : Int)))] [(0, some ⟨0, 0, true, true, false, true, [⟨.imm, 0, 1, .row 4 (List.map e_S_Bond x_0.list)⟩, ⟨.imm, 0, 0, .sc (.int .i64 x_0.presses)⟩, ⟨.sh, 0, 0, .row 1 (List.map eI x_0.order)⟩, ⟨.sh, 0, 0, .row 1 (List.map eI x_0.best)⟩, ⟨.imm, 0, 0, .sc (.int .i64 x_0.least)⟩, ⟨.imm, 0, 0, .sc (.int .i64 x_0.nodes)⟩, ⟨.imm, 0, 0, .sc (.int .i64 x_0.budget)⟩, ⟨.imm, 0, 0, .sc (.bool x_0.full)⟩]⟩)]) (sT rfl (dN z135 rfl (oMv rfl rfl)) <| sT rfl (dN z135 rfl (oNl rfl rfl rfl)) <| sT rfl (dN z135 rfl (oFA (r' := .mp 0 0 2) rfl fF208_2 rfl rfl)) <| sT rfl (dN z135 rfl (oLd (cs := [.own 0 0 2]) rfl tF27 rfl rfl)) <| sT rfl (dN z135 rfl (oLnO rfl rfl uF27 rfl rfl rfl (fun e => nomatch e))) <| sT rfl (dN z135 rfl (oMv rfl rfl)) <| sT rfl (dN z135 rfl (oNl rfl rfl rfl)) <| sT rfl (dN z135 rfl (oFA (r' := .mp 0 0 0) rfl fF208_0 rfl rfl)) <| sT rfl (dN z135 rfl (oLd (cs := [.im 1 _]) rfl tF81 rfl rfl)) <| sT rfl (dN z135 rfl (oLnI rfl rfl uF81 rfl)) <| sT rfl (dN z135 rfl (oBi rfl rfl rfl rfl)) <| sD (by kernel_rfl)) ?_
  refine Unw.seq ?_
  by_cases hc1 : (x_0.order.length : Int) = (x_0.list.length : Int)
  · rw [if_pos hc1] at h
    refine Go.condT rfl (iEq.2 hc1) ?_
    refine Go.seq ?_
    obtain ⟨x28, hx28, h⟩ := bs h
    obtain ⟨x29, hx29, h⟩ := bs h
    refine Go.dr c135 rfl rfl rfl rfl (mk [(0, .v false [.mp 0 0 0])] [(0, some ⟨0, 0, true, true, false, true, [⟨.imm, 0, 1, .row 4 (List.map e_S_Bond x_0.list)⟩, ⟨.imm, 0, 0, .sc (.int .i64 x_0.presses)⟩, ⟨.sh, 0, 0, .row 1 (List.map eI x_0.order)⟩, ⟨.sh, 0, 0, .row 1 (List.map eI x_0.best)⟩, ⟨.imm, 0, 0, .sc (.int .i64 x29)⟩, ⟨.imm, 0, 0, .sc (.int .i64 x_0.nodes)⟩, ⟨.imm, 0, 0, .sc (.int .i64 x_0.budget)⟩, ⟨.imm, 0, 0, .sc (.bool x_0.full)⟩]⟩)]) (sT rfl (dN z135 rfl (oMv rfl rfl)) <| sT rfl (dN z135 rfl (oMv rfl rfl)) <| sT rfl (dN z135 rfl (oNl rfl rfl rfl)) <| sT rfl (dN z135 rfl (oFA (r' := .mp 0 0 0) rfl fF208_0 rfl rfl)) <| sT rfl (dN z135 rfl (oLd (cs := [.im 1 _]) rfl tF81 rfl rfl)) <| sT rfl (dN z135 rfl (oMv rfl rfl)) <| sT rfl (dN z135 rfl (oNl rfl rfl rfl)) <| sT rfl (dN z135 rfl (oFA (r' := .mp 0 0 2) rfl fF208_2 rfl rfl)) <| sT rfl (dN z135 rfl (oLd (cs := [.own 0 0 2]) rfl tF27 rfl rfl)) <| sT rfl (dN z135 rfl (oMv rfl rfl)) <| sT rfl (dN z135 rfl (oNl rfl rfl rfl)) <| sT rfl (dN z135 rfl (oFA (r' := .mp 0 0 1) rfl fF208_1 rfl rfl)) <| sT rfl (dN z135 rfl (oLd (cs := [.im 0 _]) rfl tF2 rfl rfl)) <| sS (dN z135 rfl (oCr (xs := [.v false [.im 1 _], .v false [.own 0 0 2], .v false [.im 0 _]]) (vs := [(false, [.own 28 0 0])]) (v := .v false [.own 28 0 0]) (c := ⟨.sh, 0, _⟩) (cs := []) (L_spec_l24Times hx28) (.inl rfl) rfl kF218_81_27_2 rfl (ppC rfl (ppC rfl (ppC rfl pp0))) rfl rfl pb0 rfl rfl rfl)) trivial (sS (dN z135 rfl (oCa (xs := [.v false [.own 28 0 0]]) (vs := [(false, [.im 0 _])]) (v := .v false [.im 0 _]) (L_spec_l24End hx29) (.inl rfl) rfl kF217_298 rfl (ppC rfl pp0) rfl rfl pb0 rfl rfl rfl)) trivial (sT rfl (dN z135 rfl (oNl rfl rfl rfl)) <| sT rfl (dN z135 rfl (oFA (r' := .mp 0 0 4) rfl fF208_4 rfl rfl)) <| sS (dN z135 rfl (oSt tF2 rfl rfl rfl (tkI tk0) rfl rfl rfl)) trivial (sD (by kernel_rfl))))) ?_
    refine Unw.seq ?_
    refine Go.seq ?_
    obtain ⟨x37, hx37, h⟩ := bs h
    refine Go.r0 c135 rfl rfl (sq z135 (oMv rfl rfl) <| sq z135 (oMv rfl rfl) <| sq z135 (oNl rfl rfl rfl) <| sq z135 (oFA (r' := .mp 0 0 2) rfl fF208_2 rfl rfl) <| sq z135 (oLd (cs := [.own 0 0 2]) rfl tF27 rfl rfl) <| sq z135 (oCr (xs := [.v false [.own 0 0 2]]) (vs := [(false, [.own 37 0 0])]) (v := .v false [.own 37 0 0]) (c := ⟨.sh, 0, _⟩) (cs := []) (L_spec_l00Own hx37) (.inl rfl) rfl kF105_27 rfl (ppC rfl pp0) rfl rfl pb0 rfl rfl rfl) <| sq z135 (oNl rfl rfl rfl) <| sq z135 (oFA (r' := .mp 0 0 3) rfl fF208_3 rfl rfl) <| sq z135 (oSt tF27 rfl rfl rfl (tkO rfl rfl tk0) rfl rfl rfl) <| nl) ?_
    refine Unw.seq ?_
    refine Go.ret (Unw.ret ?_)
    cases h
    exact Fin_ret (fin_of rfl rF135 rfl (by kernel_rfl))
  · rw [if_neg hc1] at h
    refine Go.condF rfl (byF iEq hc1) ?_
    refine Go.skip ?_
    refine Unw.seq ?_
    refine Go.seq ?_
    refine Go.r0 c135 rfl rfl (sq z135 (oMv rfl rfl) <| sq z135 (oNl rfl rfl rfl) <| sq z135 (oFA (r' := .mp 0 0 2) rfl fF208_2 rfl rfl) <| sq z135 (oLd (cs := [.own 0 0 2]) rfl tF27 rfl rfl) <| sq z135 (oLnO rfl rfl uF27 rfl rfl rfl (fun e => nomatch e)) <| sq z135 (oAsI rfl rfl) <| nl) ?_
    refine Unw.seq ?_
    refine Go.seq ?_
    refine Go.r0 c135 rfl rfl (sq z135 (oAsI rfl rfl) <| nl) ?_
    refine Unw.seq ?_
    refine Go.block ?_
    obtain ⟨o, hl, h⟩ := bs h
    refine Go.lp c135 rfl _ (fun (s : (Int × (List S_Bond) × Int × (List Int) × (List Int) × Int × Int × Int × Bool)) => match s with | (k_3_l5, x_o0_0_l5, x_o0_1_l5, x_o0_2_l5, x_o0_3_l5, x_o0_4_l5, x_o0_5_l5, x_o0_6_l5, x_o0_7_l5) => mk [(0, .v false [.mp 0 0 0]), (2, iv (x_0.order.length : Int)), (3, iv k_3_l5)] [(0, some ⟨0, 0, true, true, false, true, [⟨.imm, 0, 1, .row 4 (List.map e_S_Bond x_o0_0_l5)⟩, ⟨.imm, 0, 0, .sc (.int .i64 x_o0_1_l5)⟩, ⟨.sh, 0, 0, .row 1 (List.map eI x_o0_2_l5)⟩, ⟨.sh, 0, 0, .row 1 (List.map eI x_o0_3_l5)⟩, ⟨.imm, 0, 0, .sc (.int .i64 x_o0_4_l5)⟩, ⟨.imm, 0, 0, .sc (.int .i64 x_o0_5_l5)⟩, ⟨.imm, 0, 0, .sc (.int .i64 x_o0_6_l5)⟩, ⟨.imm, 0, 0, .sc (.bool x_o0_7_l5)⟩]⟩)]) (fun (r2 : S_l24Search) (p : Ex × St) => p.1 = .exit 0 ∧ fin Try.prog cfg 135 Try.f135 [.ptr true [(.imm, .row 4 (List.map e_S_Bond x_0.list)), (.imm, .sc (.int .i64 x_0.presses)), (.sh, .row 1 (List.map eI x_0.order)), (.sh, .row 1 (List.map eI x_0.best)), (.imm, .sc (.int .i64 x_0.least)), (.imm, .sc (.int .i64 x_0.nodes)), (.imm, .sc (.int .i64 x_0.budget)), (.imm, .sc (.bool x_0.full))]] p.2 = some ([], [.ptr true [(.imm, .row 4 (List.map e_S_Bond r2.list)), (.imm, .sc (.int .i64 r2.presses)), (.sh, .row 1 (List.map eI r2.order)), (.sh, .row 1 (List.map eI r2.best)), (.imm, .sc (.int .i64 r2.least)), (.imm, .sc (.int .i64 r2.nodes)), (.imm, .sc (.int .i64 r2.budget)), (.imm, .sc (.bool r2.full))]])) hl (by kernel_rfl) ?_ ?_ ?_
    · intro o p hp e
      exact nomatch (hp.1.symm.trans e)
    · rintro ⟨k_3_l5, x_o0_0_l5, x_o0_1_l5, x_o0_2_l5, x_o0_3_l5, x_o0_4_l5, x_o0_5_l5, x_o0_6_l5, x_o0_7_l5⟩ o h
      unfold spec_l24Search_run_l5 at h
      dsimp only at h
      refine Go.seq ?_
      refine Go.seq ?_
      refine Go.rX c135 rfl rfl rfl (mk [(0, .v false [.mp 0 0 0]), (2, iv (x_0.order.length : Int)), (3, iv k_3_l5), (58, bv ((decide (k_3_l5 < (x_o0_0_l5.length : Int))) && (!x_o0_7_l5)))] [(0, some ⟨0, 0, true, true, false, true, [⟨.imm, 0, 1, .row 4 (List.map e_S_Bond x_o0_0_l5)⟩, ⟨.imm, 0, 0, .sc (.int .i64 x_o0_1_l5)⟩, ⟨.sh, 0, 0, .row 1 (List.map eI x_o0_2_l5)⟩, ⟨.sh, 0, 0, .row 1 (List.map eI x_o0_3_l5)⟩, ⟨.imm, 0, 0, .sc (.int .i64 x_o0_4_l5)⟩, ⟨.imm, 0, 0, .sc (.int .i64 x_o0_5_l5)⟩, ⟨.imm, 0, 0, .sc (.int .i64 x_o0_6_l5)⟩, ⟨.imm, 0, 0, .sc (.bool x_o0_7_l5)⟩]⟩)]) ?_ ?_
      · by_cases hc16 : k_3_l5 < (x_o0_0_l5.length : Int)
        · exact ⟨_, sq z135 (oMv rfl rfl) <| sq z135 (oMv rfl rfl) <| sq z135 (oNl rfl rfl rfl) <| sq z135 (oFA (r' := .mp 0 0 0) rfl fF208_0 rfl rfl) <| sq z135 (oLd (cs := [.im 1 _]) rfl tF81 rfl rfl) <| sq z135 (oLnI rfl rfl uF81 rfl) <| sq z135 (oBi rfl rfl rfl rfl) <| sq z135 (oMv rfl rfl) <| sgT z135 rfl rfl (iDec.2 hc16) (oMv rfl rfl) <| sgT z135 rfl rfl (iDec.2 hc16) (oNl rfl rfl rfl) <| sgT z135 rfl rfl (iDec.2 hc16) (oFA (r' := .mp 0 0 7) rfl fF208_7 rfl rfl) <| sgT z135 rfl rfl (iDec.2 hc16) (oLd (cs := [.im 0 _]) rfl tF4 rfl rfl) <| sgT z135 rfl rfl (iDec.2 hc16) (oUn rfl rfl rfl) <| sq z135 (oPkT rfl rfl (iDec.2 hc16) rfl) <| nl, (Eq.trans (b := (fun t_58_m5 : Bool => mk [(0, .v false [.mp 0 0 0]), (2, iv (x_0.order.length : Int)), (3, iv k_3_l5), (58, bv t_58_m5)] [(0, some ⟨0, 0, true, true, false, true, [⟨.imm, 0, 1, .row 4 (List.map e_S_Bond x_o0_0_l5)⟩, ⟨.imm, 0, 0, .sc (.int .i64 x_o0_1_l5)⟩, ⟨.sh, 0, 0, .row 1 (List.map eI x_o0_2_l5)⟩, ⟨.sh, 0, 0, .row 1 (List.map eI x_o0_3_l5)⟩, ⟨.imm, 0, 0, .sc (.int .i64 x_o0_4_l5)⟩, ⟨.imm, 0, 0, .sc (.int .i64 x_o0_5_l5)⟩, ⟨.imm, 0, 0, .sc (.int .i64 x_o0_6_l5)⟩, ⟨.imm, 0, 0, .sc (.bool x_o0_7_l5)⟩]⟩)]) (!x_o0_7_l5)) (by kernel_rfl) (congrArg (fun t_58_m5 : Bool => mk [(0, .v false [.mp 0 0 0]), (2, iv (x_0.order.length : Int)), (3, iv k_3_l5), (58, bv t_58_m5)] [(0, some ⟨0, 0, true, true, false, true, [⟨.imm, 0, 1, .row 4 (List.map e_S_Bond x_o0_0_l5)⟩, ⟨.imm, 0, 0, .sc (.int .i64 x_o0_1_l5)⟩, ⟨.sh, 0, 0, .row 1 (List.map eI x_o0_2_l5)⟩, ⟨.sh, 0, 0, .row 1 (List.map eI x_o0_3_l5)⟩, ⟨.imm, 0, 0, .sc (.int .i64 x_o0_4_l5)⟩, ⟨.imm, 0, 0, .sc (.int .i64 x_o0_5_l5)⟩, ⟨.imm, 0, 0, .sc (.int .i64 x_o0_6_l5)⟩, ⟨.imm, 0, 0, .sc (.bool x_o0_7_l5)⟩]⟩)]) (by first | rfl | (simp [(iDec.2 hc16)]; done) | (simp [(iDec.2 hc16)]; omega))))⟩
        · exact ⟨_, sq z135 (oMv rfl rfl) <| sq z135 (oMv rfl rfl) <| sq z135 (oNl rfl rfl rfl) <| sq z135 (oFA (r' := .mp 0 0 0) rfl fF208_0 rfl rfl) <| sq z135 (oLd (cs := [.im 1 _]) rfl tF81 rfl rfl) <| sq z135 (oLnI rfl rfl uF81 rfl) <| sq z135 (oBi rfl rfl rfl rfl) <| sq z135 (oMv rfl rfl) <| sgF rfl rfl (byF iDec hc16) rfl <| sgF rfl rfl (byF iDec hc16) rfl <| sgF rfl rfl (byF iDec hc16) rfl <| sgF rfl rfl (byF iDec hc16) rfl <| sgF rfl rfl (byF iDec hc16) rfl <| sq z135 (oPkF rfl rfl (byF iDec hc16) rfl) <| nl, (Eq.trans (b := (fun t_58_m5 : Bool => mk [(0, .v false [.mp 0 0 0]), (2, iv (x_0.order.length : Int)), (3, iv k_3_l5), (58, bv t_58_m5)] [(0, some ⟨0, 0, true, true, false, true, [⟨.imm, 0, 1, .row 4 (List.map e_S_Bond x_o0_0_l5)⟩, ⟨.imm, 0, 0, .sc (.int .i64 x_o0_1_l5)⟩, ⟨.sh, 0, 0, .row 1 (List.map eI x_o0_2_l5)⟩, ⟨.sh, 0, 0, .row 1 (List.map eI x_o0_3_l5)⟩, ⟨.imm, 0, 0, .sc (.int .i64 x_o0_4_l5)⟩, ⟨.imm, 0, 0, .sc (.int .i64 x_o0_5_l5)⟩, ⟨.imm, 0, 0, .sc (.int .i64 x_o0_6_l5)⟩, ⟨.imm, 0, 0, .sc (.bool x_o0_7_l5)⟩]⟩)]) false) (by kernel_rfl) (congrArg (fun t_58_m5 : Bool => mk [(0, .v false [.mp 0 0 0]), (2, iv (x_0.order.length : Int)), (3, iv k_3_l5), (58, bv t_58_m5)] [(0, some ⟨0, 0, true, true, false, true, [⟨.imm, 0, 1, .row 4 (List.map e_S_Bond x_o0_0_l5)⟩, ⟨.imm, 0, 0, .sc (.int .i64 x_o0_1_l5)⟩, ⟨.sh, 0, 0, .row 1 (List.map eI x_o0_2_l5)⟩, ⟨.sh, 0, 0, .row 1 (List.map eI x_o0_3_l5)⟩, ⟨.imm, 0, 0, .sc (.int .i64 x_o0_4_l5)⟩, ⟨.imm, 0, 0, .sc (.int .i64 x_o0_5_l5)⟩, ⟨.imm, 0, 0, .sc (.int .i64 x_o0_6_l5)⟩, ⟨.imm, 0, 0, .sc (.bool x_o0_7_l5)⟩]⟩)]) (by first | rfl | (simp [(byF iDec hc16)]; done) | (simp [(byF iDec hc16)]; omega))))⟩
      · refine Unw.seq ?_
        by_cases hc17 : (k_3_l5 < (x_o0_0_l5.length : Int) ∧ ¬ (x_o0_7_l5 = true))
        · rw [if_pos hc17] at h
          refine Go.condT rfl ((iAnd iDec (iNot Iff.rfl)).2 hc17) ?_
          refine Go.skip ?_
          refine Unw.seq ?_
          refine Go.seq ?_
          refine Go.join (fun st => ∃ x_o0_0_r6, ∃ x_o0_1_r6, ∃ x_o0_2_r6, ∃ x_o0_3_r6, ∃ x_o0_4_r6, ∃ x_o0_5_r6, ∃ x_o0_6_r6, ∃ x_o0_7_r6, spec_l24Search_run_k6 self k_3_l5 x_o0_0_r6 x_o0_1_r6 x_o0_2_r6 x_o0_3_r6 x_o0_4_r6 x_o0_5_r6 x_o0_6_r6 x_o0_7_r6 = some o ∧ st.norm ([0, 2, 3], [0]) = mk [(0, .v false [.mp 0 0 0]), (2, iv (x_0.order.length : Int)), (3, iv k_3_l5)] [(0, some ⟨0, 0, true, true, false, true, [⟨.imm, 0, 1, .row 4 (List.map e_S_Bond x_o0_0_r6)⟩, ⟨.imm, 0, 0, .sc (.int .i64 x_o0_1_r6)⟩, ⟨.sh, 0, 0, .row 1 (List.map eI x_o0_2_r6)⟩, ⟨.sh, 0, 0, .row 1 (List.map eI x_o0_3_r6)⟩, ⟨.imm, 0, 0, .sc (.int .i64 x_o0_4_r6)⟩, ⟨.imm, 0, 0, .sc (.int .i64 x_o0_5_r6)⟩, ⟨.imm, 0, 0, .sc (.int .i64 x_o0_6_r6)⟩, ⟨.imm, 0, 0, .sc (.bool x_o0_7_r6)⟩]⟩)]) ?_ ?_
          · rintro st ⟨x_o0_0_r6, x_o0_1_r6, x_o0_2_r6, x_o0_3_r6, x_o0_4_r6, x_o0_5_r6, x_o0_6_r6, x_o0_7_r6, h, hst⟩
            unfold spec_l24Search_run_k6 at h
            refine Unw.seq ?_
            refine Go.r1 c135 rfl rfl hst (sq z135 (oMv rfl rfl) <| sq z135 (oBi rfl rfl rfl rfl) <| sq z135 (oAsI rfl rfl) <| nl) ?_
            refine Unw.nil ?_
            cases h
            exact ⟨rfl, (by kernel_rfl)⟩
          · intro K23
            refine Go.block ?_
            refine Go.seq ?_
            refine Go.seq ?_
            obtain ⟨x66, hx66, h⟩ := bs h
            refine Go.r0 c135 rfl rfl (sq z135 (oMv rfl rfl) <| sq z135 (oNl rfl rfl rfl) <| sq z135 (oFA (r' := .mp 0 0 2) rfl fF208_2 rfl rfl) <| sq z135 (oLd (cs := [.own 0 0 2]) rfl tF27 rfl rfl) <| sq z135 (oMv rfl rfl) <| sq z135 (oCa (xs := [.v false [.own 0 0 2], .v false [.im 0 _]]) (vs := [(false, [.im 0 _])]) (v := .v false [.im 0 _]) (L_spec_l00Has hx66) (.inl rfl) rfl kF214_27_2 rfl (ppC rfl (ppC rfl pp0)) rfl rfl pb0 rfl rfl rfl) <| nl) ?_
            refine Unw.seq ?_
            by_cases hc24 : x66 = true
            · rw [if_pos hc24] at h
              refine Go.condT rfl (Iff.rfl.2 hc24) ?_
              refine Go.exit ?_
              refine Unw.seqx ?_
              refine Unw.blkx ?_
              exact K23 _ ⟨x_o0_0_l5, x_o0_1_l5, x_o0_2_l5, x_o0_3_l5, x_o0_4_l5, x_o0_5_l5, x_o0_6_l5, x_o0_7_l5, h, (by kernel_rfl)⟩
            · rw [if_neg hc24] at h
              refine Go.condF rfl (byF Iff.rfl hc24) ?_
              refine Go.skip ?_
              refine Unw.seq ?_
              refine Go.seq ?_
              obtain ⟨x74, hx74, h⟩ := bs h
              refine Go.r0 c135 rfl rfl (sq z135 (oMv rfl rfl) <| sq z135 (oMv rfl rfl) <| sq z135 (oNl rfl rfl rfl) <| sq z135 (oFA (r' := .mp 0 0 2) rfl fF208_2 rfl rfl) <| sq z135 (oLd (cs := [.own 0 0 2]) rfl tF27 rfl rfl) <| sq z135 (oMv rfl rfl) <| sq z135 (oBS (es := List.map eI ([k_3_l5] : List Int)) rfl sF27 rfl (ptC rfl (fxI fx0) rfl pt0) (flat0 rfl fun _ => rfl)) <| sq z135 (oApO (en := eI) (M := ([k_3_l5] : List Int)) rfl hx74 rfl sF27 rfl rfl uF27 (.inl ⟨_, rfl⟩) rfl rfl rfl rfl (el_own rfl rfl) (flat0 rfl fun _ => rfl)) <| sq z135 (oNl rfl rfl rfl) <| sq z135 (oFA (r' := .mp 0 0 2) rfl fF208_2 rfl rfl) <| sq z135 (oSt tF27 rfl rfl rfl (tkO rfl rfl tk0) rfl rfl rfl) <| nl) ?_
              refine Unw.seq ?_
              refine Go.seq ?_
              refine Go.seq ?_
              obtain ⟨t_102_m9, hm31, h⟩ := bs h
              refine Go.dr c135 rfl rfl rfl (st1 := mk [(0, .v false [.mp 0 0 0]), (2, iv (x_0.order.length : Int)), (3, iv k_3_l5)] [(0, some ⟨0, 0, true, true, false, true, [⟨.imm, 0, 1, .row 4 (List.map e_S_Bond x_o0_0_l5)⟩, ⟨.imm, 0, 0, .sc (.int .i64 x_o0_1_l5)⟩, ⟨.sh, 0, 0, .row 1 (List.map eI x74)⟩, ⟨.sh, 0, 0, .row 1 (List.map eI x_o0_3_l5)⟩, ⟨.imm, 0, 0, .sc (.int .i64 x_o0_4_l5)⟩, ⟨.imm, 0, 0, .sc (.int .i64 x_o0_5_l5)⟩, ⟨.imm, 0, 0, .sc (.int .i64 x_o0_6_l5)⟩, ⟨.imm, 0, 0, .sc (.bool x_o0_7_l5)⟩]⟩)]) (by kernel_rfl) (mk [(0, .v false [.mp 0 0 0]), (2, iv (x_0.order.length : Int)), (3, iv k_3_l5), (102, bv t_102_m9)] [(0, some ⟨0, 0, true, true, false, true, [⟨.imm, 0, 1, .row 4 (List.map e_S_Bond x_o0_0_l5)⟩, ⟨.imm, 0, 0, .sc (.int .i64 x_o0_1_l5)⟩, ⟨.sh, 0, 0, .row 1 (List.map eI x74)⟩, ⟨.sh, 0, 0, .row 1 (List.map eI x_o0_3_l5)⟩, ⟨.imm, 0, 0, .sc (.int .i64 x_o0_4_l5)⟩, ⟨.imm, 0, 0, .sc (.int .i64 x_o0_5_l5)⟩, ⟨.imm, 0, 0, .sc (.int .i64 x_o0_6_l5)⟩, ⟨.imm, 0, 0, .sc (.bool x_o0_7_l5)⟩]⟩)]) ?_ ?_
              · by_cases hc25 : x_o0_4_l5 < 0
                · rw [if_pos hc25] at hm31
                  cases hm31
                  exact sT rfl (dN z135 rfl (oMv rfl rfl)) <| sT rfl (dN z135 rfl (oNl rfl rfl rfl)) <| sT rfl (dN z135 rfl (oFA (r' := .mp 0 0 4) rfl fF208_4 rfl rfl)) <| sT rfl (dN z135 rfl (oLd (cs := [.im 0 _]) rfl tF2 rfl rfl)) <| sT rfl (dN z135 rfl (oBi rfl rfl rfl rfl)) <| sT rfl (dN z135 rfl (oMv rfl rfl)) <| sT rfl (dF rfl rfl rfl (iDec.2 hc25) rfl) <| sT rfl (dF rfl rfl rfl (iDec.2 hc25) rfl) <| sT rfl (dF rfl rfl rfl (iDec.2 hc25) rfl) <| sT rfl (dF rfl rfl rfl (iDec.2 hc25) rfl) <| sT rfl (dF rfl rfl rfl (iDec.2 hc25) rfl) <| sT rfl (dF rfl rfl rfl (iDec.2 hc25) rfl) <| sT rfl (dF rfl rfl rfl (iDec.2 hc25) rfl) <| sT rfl (dF rfl rfl rfl (iDec.2 hc25) rfl) <| sT rfl (dF rfl rfl rfl (iDec.2 hc25) rfl) <| sT rfl (dF rfl rfl rfl (iDec.2 hc25) rfl) <| sT rfl (dF rfl rfl rfl (iDec.2 hc25) rfl) <| sT rfl (dF rfl rfl rfl (iDec.2 hc25) rfl) <| sT rfl (dF rfl rfl rfl (iDec.2 hc25) rfl) <| sT rfl (dF rfl rfl rfl (iDec.2 hc25) rfl) <| sT rfl (dF rfl rfl rfl (iDec.2 hc25) rfl) <| sT rfl (dF rfl rfl rfl (iDec.2 hc25) rfl) <| sS (dF rfl rfl rfl (iDec.2 hc25) rfl) trivial (sS (dF rfl rfl rfl (iDec.2 hc25) rfl) trivial (sT rfl (dF rfl rfl rfl (iDec.2 hc25) rfl) <| sT rfl (dN z135 rfl (oPkT rfl rfl (iDec.2 hc25) rfl)) <| sD (by kernel_rfl)))
                · rw [if_neg hc25] at hm31
                  obtain ⟨x95, hx95, hm31⟩ := bs hm31
                  obtain ⟨x96, hx96, hm31⟩ := bs hm31
                  cases hm31
                  exact sT rfl (dN z135 rfl (oMv rfl rfl)) <| sT rfl (dN z135 rfl (oNl rfl rfl rfl)) <| sT rfl (dN z135 rfl (oFA (r' := .mp 0 0 4) rfl fF208_4 rfl rfl)) <| sT rfl (dN z135 rfl (oLd (cs := [.im 0 _]) rfl tF2 rfl rfl)) <| sT rfl (dN z135 rfl (oBi rfl rfl rfl rfl)) <| sT rfl (dN z135 rfl (oMv rfl rfl)) <| sT rfl (dT z135 rfl rfl rfl (byF iDec hc25) (oMv rfl rfl)) <| sT rfl (dT z135 rfl rfl rfl (byF iDec hc25) (oNl rfl rfl rfl)) <| sT rfl (dT z135 rfl rfl rfl (byF iDec hc25) (oFA (r' := .mp 0 0 0) rfl fF208_0 rfl rfl)) <| sT rfl (dT z135 rfl rfl rfl (byF iDec hc25) (oLd (cs := [.im 1 _]) rfl tF81 rfl rfl)) <| sT rfl (dT z135 rfl rfl rfl (byF iDec hc25) (oMv rfl rfl)) <| sT rfl (dT z135 rfl rfl rfl (byF iDec hc25) (oNl rfl rfl rfl)) <| sT rfl (dT z135 rfl rfl rfl (byF iDec hc25) (oFA (r' := .mp 0 0 2) rfl fF208_2 rfl rfl)) <| sT rfl (dT z135 rfl rfl rfl (byF iDec hc25) (oLd (cs := [.own 0 0 2]) rfl tF27 rfl rfl)) <| sT rfl (dT z135 rfl rfl rfl (byF iDec hc25) (oMv rfl rfl)) <| sT rfl (dT z135 rfl rfl rfl (byF iDec hc25) (oNl rfl rfl rfl)) <| sT rfl (dT z135 rfl rfl rfl (byF iDec hc25) (oFA (r' := .mp 0 0 1) rfl fF208_1 rfl rfl)) <| sT rfl (dT z135 rfl rfl rfl (byF iDec hc25) (oLd (cs := [.im 0 _]) rfl tF2 rfl rfl)) <| sT rfl (dT z135 rfl rfl rfl (byF iDec hc25) (oMv rfl rfl)) <| sT rfl (dT z135 rfl rfl rfl (byF iDec hc25) (oNl rfl rfl rfl)) <| sT rfl (dT z135 rfl rfl rfl (byF iDec hc25) (oFA (r' := .mp 0 0 4) rfl fF208_4 rfl rfl)) <| sT rfl (dT z135 rfl rfl rfl (byF iDec hc25) (oLd (cs := [.im 0 _]) rfl tF2 rfl rfl)) <| sS (dT z135 rfl rfl rfl (byF iDec hc25) (oCr (xs := [.v false [.im 1 _], .v false [.own 0 0 2], .v false [.im 0 _]]) (vs := [(false, [.own 95 0 0])]) (v := .v false [.own 95 0 0]) (c := ⟨.sh, 0, _⟩) (cs := []) (L_spec_l24Times hx95) (.inl rfl) rfl kF218_81_27_2 rfl (ppC rfl (ppC rfl (ppC rfl pp0))) rfl rfl pb0 rfl rfl rfl)) trivial (sS (dT z135 rfl rfl rfl (byF iDec hc25) (oCa (xs := [.v false [.own 95 0 0]]) (vs := [(false, [.im 0 _])]) (v := .v false [.im 0 _]) (L_spec_l24End hx96) (.inl rfl) rfl kF217_298 rfl (ppC rfl pp0) rfl rfl pb0 rfl rfl rfl)) trivial (sT rfl (dT z135 rfl rfl rfl (byF iDec hc25) (oBi rfl rfl rfl rfl)) <| sT rfl (dN z135 rfl (oPkF rfl rfl (byF iDec hc25) rfl)) <| sD (by kernel_rfl)))
              · refine Unw.seq ?_
                refine Go.join (fun st => ∃ x_o0_0_r14, ∃ x_o0_1_r14, ∃ x_o0_2_r14, ∃ x_o0_3_r14, ∃ x_o0_4_r14, ∃ x_o0_5_r14, ∃ x_o0_6_r14, ∃ x_o0_7_r14, spec_l24Search_run_k14 self k_3_l5 x_0 x_o0_0_r14 x_o0_1_r14 x_o0_2_r14 x_o0_3_r14 x_o0_4_r14 x_o0_5_r14 x_o0_6_r14 x_o0_7_r14 = some o ∧ st.norm ([0, 2, 3], [0]) = mk [(0, .v false [.mp 0 0 0]), (2, iv (x_0.order.length : Int)), (3, iv k_3_l5)] [(0, some ⟨0, 0, true, true, false, true, [⟨.imm, 0, 1, .row 4 (List.map e_S_Bond x_o0_0_r14)⟩, ⟨.imm, 0, 0, .sc (.int .i64 x_o0_1_r14)⟩, ⟨.sh, 0, 0, .row 1 (List.map eI x_o0_2_r14)⟩, ⟨.sh, 0, 0, .row 1 (List.map eI x_o0_3_r14)⟩, ⟨.imm, 0, 0, .sc (.int .i64 x_o0_4_r14)⟩, ⟨.imm, 0, 0, .sc (.int .i64 x_o0_5_r14)⟩, ⟨.imm, 0, 0, .sc (.int .i64 x_o0_6_r14)⟩, ⟨.imm, 0, 0, .sc (.bool x_o0_7_r14)⟩]⟩)]) ?_ ?_
                · rintro st ⟨x_o0_0_r14, x_o0_1_r14, x_o0_2_r14, x_o0_3_r14, x_o0_4_r14, x_o0_5_r14, x_o0_6_r14, x_o0_7_r14, h, hst⟩
                  unfold spec_l24Search_run_k14 at h
                  refine Unw.seq ?_
                  obtain ⟨x130, hx130, h⟩ := bs h
                  refine Go.r1 c135 rfl rfl hst (sq z135 (oMv rfl rfl) <| sq z135 (oMv rfl rfl) <| sq z135 (oNl rfl rfl rfl) <| sq z135 (oFA (r' := .mp 0 0 2) rfl fF208_2 rfl rfl) <| sq z135 (oLd (cs := [.own 0 0 2]) rfl tF27 rfl rfl) <| sq z135 (oMv rfl rfl) <| sq z135 (oSlO rfl hx130 sF27 rfl rfl rfl bn0 (bn1 rfl) rfl rfl rfl) <| sq z135 (oNl rfl rfl rfl) <| sq z135 (oFA (r' := .mp 0 0 2) rfl fF208_2 rfl rfl) <| sq z135 (oSt tF27 rfl rfl rfl (tkSM rfl rfl tk0) rfl rfl rfl) <| nl) ?_
                  refine Unw.blk ?_
                  exact K23 _ ⟨x_o0_0_r14, x_o0_1_r14, ((x_o0_2_r14.take ((x_0.order.length : Int).toNat)).drop 0), x_o0_3_r14, x_o0_4_r14, x_o0_5_r14, x_o0_6_r14, x_o0_7_r14, h, (by kernel_rfl)⟩
                · intro K28
                  by_cases hc29 : t_102_m9 = true
                  · rw [if_pos hc29] at h
                    refine Go.condT rfl (Iff.rfl.2 hc29) ?_
                    refine Go.seq ?_
                    refine Go.dr c135 rfl rfl rfl rfl (mk [(0, .v false [.mp 0 0 0]), (2, iv (x_0.order.length : Int)), (3, iv k_3_l5), (111, bv (x_o0_5_l5 == x_o0_6_l5))] [(0, some ⟨0, 0, true, true, false, true, [⟨.imm, 0, 1, .row 4 (List.map e_S_Bond x_o0_0_l5)⟩, ⟨.imm, 0, 0, .sc (.int .i64 x_o0_1_l5)⟩, ⟨.sh, 0, 0, .row 1 (List.map eI x74)⟩, ⟨.sh, 0, 0, .row 1 (List.map eI x_o0_3_l5)⟩, ⟨.imm, 0, 0, .sc (.int .i64 x_o0_4_l5)⟩, ⟨.imm, 0, 0, .sc (.int .i64 x_o0_5_l5)⟩, ⟨.imm, 0, 0, .sc (.int .i64 x_o0_6_l5)⟩, ⟨.imm, 0, 0, .sc (.bool x_o0_7_l5)⟩]⟩)]) (sT rfl (dN z135 rfl (oMv rfl rfl)) <| sT rfl (dN z135 rfl (oNl rfl rfl rfl)) <| sT rfl (dN z135 rfl (oFA (r' := .mp 0 0 5) rfl fF208_5 rfl rfl)) <| sT rfl (dN z135 rfl (oLd (cs := [.im 0 _]) rfl tF2 rfl rfl)) <| sT rfl (dN z135 rfl (oMv rfl rfl)) <| sT rfl (dN z135 rfl (oNl rfl rfl rfl)) <| sT rfl (dN z135 rfl (oFA (r' := .mp 0 0 6) rfl fF208_6 rfl rfl)) <| sT rfl (dN z135 rfl (oLd (cs := [.im 0 _]) rfl tF2 rfl rfl)) <| sT rfl (dN z135 rfl (oBi rfl rfl rfl rfl)) <| sD (by kernel_rfl)) ?_
                    refine Unw.seq ?_
                    by_cases hc30 : x_o0_5_l5 = x_o0_6_l5
                    · rw [if_pos hc30] at h
                      refine Go.condT rfl (iEq.2 hc30) ?_
                      refine Go.r0 c135 rfl rfl (sq z135 (oMv rfl rfl) <| sq z135 (oNl rfl rfl rfl) <| sq z135 (oFA (r' := .mp 0 0 7) rfl fF208_7 rfl rfl) <| sq z135 (oSt tF4 rfl rfl rfl (tkI tk0) rfl rfl rfl) <| nl) ?_
                      exact K28 _ ⟨x_o0_0_l5, x_o0_1_l5, x74, x_o0_3_l5, x_o0_4_l5, x_o0_5_l5, x_o0_6_l5, true, h, (by kernel_rfl)⟩
                    · rw [if_neg hc30] at h
                      refine Go.condF rfl (byF iEq hc30) ?_
                      refine Go.seq ?_
                      refine Go.r0 c135 rfl rfl (sq z135 (oMv rfl rfl) <| sq z135 (oNl rfl rfl rfl) <| sq z135 (oFA (r' := .mp 0 0 5) rfl fF208_5 rfl rfl) <| sq z135 (oLd (cs := [.im 0 _]) rfl tF2 rfl rfl) <| sq z135 (oBi rfl rfl rfl rfl) <| sq z135 (oNl rfl rfl rfl) <| sq z135 (oFA (r' := .mp 0 0 5) rfl fF208_5 rfl rfl) <| sq z135 (oSt tF2 rfl rfl rfl (tkI tk0) rfl rfl rfl) <| nl) ?_
                      refine Unw.seq ?_
                      obtain ⟨x123, hx123, h⟩ := bs h
                      refine Go.r1 c135 rfl rfl (st1 := mk [(0, .v false [.mp 0 0 0]), (2, iv (x_0.order.length : Int)), (3, iv k_3_l5)] [(0, some ⟨0, 0, true, true, false, true, [⟨.imm, 0, 1, .row 4 (List.map e_S_Bond x_o0_0_l5)⟩, ⟨.imm, 0, 0, .sc (.int .i64 x_o0_1_l5)⟩, ⟨.sh, 0, 0, .row 1 (List.map eI x74)⟩, ⟨.sh, 0, 0, .row 1 (List.map eI x_o0_3_l5)⟩, ⟨.imm, 0, 0, .sc (.int .i64 x_o0_4_l5)⟩, ⟨.imm, 0, 0, .sc (.int .i64 (w64 (x_o0_5_l5 + 1)))⟩, ⟨.imm, 0, 0, .sc (.int .i64 x_o0_6_l5)⟩, ⟨.imm, 0, 0, .sc (.bool x_o0_7_l5)⟩]⟩)]) (by kernel_rfl) (sq z135 (oMv rfl rfl) <| sq z135 (oCa (xs := [.v false [.mp 0 0 0]]) (vs := []) (v := .tup []) (ih hx123) (.inl rfl) rfl kF135_206 rfl (ppPx (ob' := ⟨0, 0, true, true, false, true, [⟨.imm, 0, 1, .row 4 (List.map e_S_Bond x_o0_0_l5)⟩, ⟨.imm, 0, 0, .sc (.int .i64 x_o0_1_l5)⟩, ⟨.sh, 0, 0, .row 1 (List.map eI x74)⟩, ⟨.sh, 0, 0, .row 1 (List.map eI x_o0_3_l5)⟩, ⟨.imm, 0, 0, .sc (.int .i64 x_o0_4_l5)⟩, ⟨.imm, 0, 0, .sc (.int .i64 (w64 (x_o0_5_l5 + 1)))⟩, ⟨.imm, 0, 0, .sc (.int .i64 x_o0_6_l5)⟩, ⟨.imm, 0, 0, .sc (.bool x_o0_7_l5)⟩]⟩) rfl rfl rfl (by kernel_rfl) pp0) rfl rfl (pbPx (ob' := ⟨0, 1, true, true, false, true, [⟨.imm, 1, 1, .row 4 (List.map e_S_Bond x123.list)⟩, ⟨.imm, 1, 0, .sc (.int .i64 x123.presses)⟩, ⟨.sh, 1, 0, .row 1 (List.map eI x123.order)⟩, ⟨.sh, 1, 0, .row 1 (List.map eI x123.best)⟩, ⟨.imm, 1, 0, .sc (.int .i64 x123.least)⟩, ⟨.imm, 1, 0, .sc (.int .i64 x123.nodes)⟩, ⟨.imm, 1, 0, .sc (.int .i64 x123.budget)⟩, ⟨.imm, 1, 0, .sc (.bool x123.full)⟩]⟩) rfl rfl (by kernel_rfl) pb0) rfl rfl rfl) <| nl) ?_
                      exact K28 _ ⟨x123.list, x123.presses, x123.order, x123.best, x123.least, x123.nodes, x123.budget, x123.full, h, (by kernel_rfl)⟩
                  · rw [if_neg hc29] at h
                    refine Go.condF rfl (byF Iff.rfl hc29) ?_
                    refine Go.skip ?_
                    exact K28 _ ⟨x_o0_0_l5, x_o0_1_l5, x74, x_o0_3_l5, x_o0_4_l5, x_o0_5_l5, x_o0_6_l5, x_o0_7_l5, h, (by kernel_rfl)⟩
        · rw [if_neg hc17] at h
          refine Go.condF rfl (byF (iAnd iDec (iNot Iff.rfl)) hc17) ?_
          refine Go.exit ?_
          refine Unw.seqx ?_
          refine Unw.nil ?_
          cases h
          exact ⟨rfl, (fin_of rfl rF135 rfl (by kernel_rfl))⟩
    · rintro ⟨e, st⟩ hp
      obtain ⟨r2, rfl⟩ : ∃ y, y = o := ⟨o, rfl⟩
      obtain ⟨he, hfin⟩ := hp
      obtain rfl : e = .exit 0 := he
      cases h
      refine Unw.blkx ?_
      exact Unw.nil (Fin_end hfin)
theorem L_spec_l24Search_run {x_0 : S_l24Search} {r : S_l24Search} (h : spec_l24Search_run x_0 = some r) : FL Try.prog cfg 135 [.ptr true [(.imm, .row 4 (List.map e_S_Bond x_0.list)), (.imm, .sc (.int .i64 x_0.presses)), (.sh, .row 1 (List.map eI x_0.order)), (.sh, .row 1 (List.map eI x_0.best)), (.imm, .sc (.int .i64 x_0.least)), (.imm, .sc (.int .i64 x_0.nodes)), (.imm, .sc (.int .i64 x_0.budget)), (.imm, .sc (.bool x_0.full))]] = some ([], [.ptr true [(.imm, .row 4 (List.map e_S_Bond r.list)), (.imm, .sc (.int .i64 r.presses)), (.sh, .row 1 (List.map eI r.order)), (.sh, .row 1 (List.map eI r.best)), (.imm, .sc (.int .i64 r.least)), (.imm, .sc (.int .i64 r.nodes)), (.imm, .sc (.int .i64 r.budget)), (.imm, .sc (.bool r.full))]]) := by
  unfold spec_l24Search_run at h
  obtain ⟨n, hn⟩ := fixO_iter h
  clear h
  induction n generalizing x_0 r with
  | zero => cases hn
  | succ n ihn => exact L_spec_l24Search_run_F (self := iterO _ n) (fun h => ihn h) hn
theorem L_spec_BestGlueOrder {list_0 : (List S_Bond)} {presses_1 : Int} {budget_2 : Int} {r : ((List Int) × Int × Int)} (h : spec_BestGlueOrder list_0 presses_1 budget_2 = some r) : FL Try.prog cfg 54 [.im 2 false [.row 4 (List.map e_S_Bond list_0)], .im 2 false [.sc (.int .i64 presses_1)], .im 2 false [.sc (.int .i64 budget_2)]] = some ([(false, [.ow 0 1 (List.map eI r.1)]), (false, [.im 0 (.sc (.int .i64 r.2.1))]), (false, [.im 0 (.sc (.int .i64 r.2.2))])], []) := by
  unfold spec_BestGlueOrder at h
  refine FL_goS (A := [(0, .v false [.im 2 (.row 4 (List.map e_S_Bond list_0))]), (1, .v false [.im 2 (.sc (.int .i64 presses_1))]), (2, .v false [.im 2 (.sc (.int .i64 budget_2))])]) (B := [(0, none), (1, none), (2, none)]) (nt := 40) rfl rfl Try.func54 rfl rfl rfl rfl ?_
  refine Go.seq ?_
  refine Go.r0 c54 rfl rfl (sq z54 (oAsN rfl rfl eF27) <| sq z54 (oAsI rfl rfl) <| sq z54 (oAsI rfl rfl) <| nl) ?_
  refine Unw.seq ?_
  refine Go.seq ?_
  refine Go.seq ?_
  obtain ⟨x11, hx11, h⟩ := bs h
  refine Go.r0 c54 rfl rfl (sq z54 (oMv rfl rfl) <| sq z54 (oCa (xs := [.v false [.im 2 _]]) (vs := [(false, [.im 0 _])]) (v := .v false [.im 0 _]) (L_spec_l24Ok hx11) (.inl rfl) rfl kF134_81 rfl (ppC rfl pp0) rfl rfl pb0 rfl rfl rfl) <| sq z54 (oUn rfl rfl rfl) <| nl) ?_
  refine Unw.seq ?_
  by_cases hc1 : x11 = true
  · rw [if_pos hc1] at h
    refine Go.condF rfl (nF (Iff.rfl.2 hc1)) ?_
    refine Go.skip ?_
    refine Unw.seq ?_
    refine Go.seq ?_
    refine Go.seq ?_
    obtain ⟨x14, hx14, h⟩ := bs h
    obtain ⟨t_20_m3, hm5, h⟩ := bs h
    refine Go.rX c54 rfl rfl rfl (mk [(0, .v false [.im 2 (.row 4 (List.map e_S_Bond list_0))]), (1, iv presses_1), (2, iv budget_2), (20, bv t_20_m3)] []) ?_ ?_
    · by_cases hc2 : x14 = true
      · rw [if_pos hc2] at hm5
        obtain ⟨x18, hx18, hm5⟩ := bs hm5
        cases hm5
        exact ⟨_, sq z54 (oMv rfl rfl) <| sq z54 (oCa (xs := [.v false [.im 2 _], .v false [.im 0 _], .v false [.im 0 _]]) (vs := [(false, [.im 0 _])]) (v := .v false [.im 0 _]) (L_spec_l00In hx14) (.inl rfl) rfl kF102_2_2_2 rfl (ppC rfl (ppC rfl (ppC rfl pp0))) rfl rfl pb0 rfl rfl rfl) <| sq z54 (oUn rfl rfl rfl) <| sq z54 (oMv rfl rfl) <| sgT z54 rfl rfl (nF (Iff.rfl.2 hc2)) (oMv rfl rfl) <| sgT z54 rfl rfl (nF (Iff.rfl.2 hc2)) (oCa (xs := [.v false [.im 2 _], .v false [.im 0 _], .v false [.im 0 _]]) (vs := [(false, [.im 0 _])]) (v := .v false [.im 0 _]) (L_spec_l00In hx18) (.inl rfl) rfl kF102_2_2_2 rfl (ppC rfl (ppC rfl (ppC rfl pp0))) rfl rfl pb0 rfl rfl rfl) <| sgT z54 rfl rfl (nF (Iff.rfl.2 hc2)) (oUn rfl rfl rfl) <| sq z54 (oPkF rfl rfl (nF (Iff.rfl.2 hc2)) rfl) <| nl, (by kernel_rfl)⟩
      · rw [if_neg hc2] at hm5
        cases hm5
        exact ⟨_, sq z54 (oMv rfl rfl) <| sq z54 (oCa (xs := [.v false [.im 2 _], .v false [.im 0 _], .v false [.im 0 _]]) (vs := [(false, [.im 0 _])]) (v := .v false [.im 0 _]) (L_spec_l00In hx14) (.inl rfl) rfl kF102_2_2_2 rfl (ppC rfl (ppC rfl (ppC rfl pp0))) rfl rfl pb0 rfl rfl rfl) <| sq z54 (oUn rfl rfl rfl) <| sq z54 (oMv rfl rfl) <| sgF rfl rfl (nT (byF Iff.rfl hc2)) rfl <| sgF rfl rfl (nT (byF Iff.rfl hc2)) rfl <| sgF rfl rfl (nT (byF Iff.rfl hc2)) rfl <| sq z54 (oPkT rfl rfl (nT (byF Iff.rfl hc2)) rfl) <| nl, (by kernel_rfl)⟩
    · refine Unw.seq ?_
      by_cases hc3 : t_20_m3 = true
      · rw [if_pos hc3] at h
        refine Go.condT rfl (Iff.rfl.2 hc3) ?_
        refine Go.seq ?_
        refine Go.r0 c54 rfl rfl (sq z54 (oAsN rfl rfl eF27) <| sq z54 (oAsI rfl rfl) <| sq z54 (oAsI rfl rfl) <| nl) ?_
        refine Unw.seq ?_
        refine Go.ret (Unw.ret ?_)
        cases h
        exact Fin_ret (fin_of rfl rF54 rfl (by kernel_rfl))
      · rw [if_neg hc3] at h
        refine Go.condF rfl (byF Iff.rfl hc3) ?_
        refine Go.skip ?_
        refine Unw.seq ?_
        refine Go.seq ?_
        refine Go.r0 c54 rfl rfl (sq z54 (oMv rfl rfl) <| sq z54 (oMv rfl rfl) <| sq z54 (oMv rfl rfl) <| sq z54 (oBu (cs := [.im 2 _, .im 0 _, .nil, .nil, .im 0 _, .im 0 _, .im 0 _, .im 0 _]) rfl bF208 rfl) <| sq z54 (oBx rfl tF208 rfl (tkI (tkI (tkN (tkN (tkI (tkI (tkI (tkI tk0))))))))) <| sq z54 (oAsP rfl rfl) <| nl) ?_
        refine Unw.seq ?_
        refine Go.seq ?_
        obtain ⟨x27, hx27, h⟩ := bs h
        refine Go.r1 c54 rfl rfl (st1 := mk [(9, .v false [.mp 25 0 0])] [(25, some ⟨0, 0, false, true, false, true, [⟨.imm, 0, 2, .row 4 (List.map e_S_Bond list_0)⟩, ⟨.imm, 0, 0, .sc (.int .i64 presses_1)⟩, ⟨.sh, 0, 0, .row 1 (List.map eI ([] : List Int))⟩, ⟨.sh, 0, 0, .row 1 (List.map eI ([] : List Int))⟩, ⟨.imm, 0, 0, .sc (.int .i64 (-1))⟩, ⟨.imm, 0, 0, .sc (.int .i64 0)⟩, ⟨.imm, 0, 0, .sc (.int .i64 budget_2)⟩, ⟨.imm, 0, 0, .sc (.bool false)⟩]⟩)]) (by kernel_rfl) (sq z54 (oMv rfl rfl) <| sq z54 (oCa (xs := [.v false [.mp 25 0 0]]) (vs := []) (v := .tup []) (L_spec_l24Search_run hx27) (.inl rfl) rfl kF135_206 rfl (ppPx (ob' := ⟨0, 0, false, true, false, true, [⟨.imm, 0, 2, .row 4 (List.map e_S_Bond list_0)⟩, ⟨.imm, 0, 0, .sc (.int .i64 presses_1)⟩, ⟨.sh, 0, 0, .row 1 (List.map eI ([] : List Int))⟩, ⟨.sh, 0, 0, .row 1 (List.map eI ([] : List Int))⟩, ⟨.imm, 0, 0, .sc (.int .i64 (-1))⟩, ⟨.imm, 0, 0, .sc (.int .i64 0)⟩, ⟨.imm, 0, 0, .sc (.int .i64 budget_2)⟩, ⟨.imm, 0, 0, .sc (.bool false)⟩]⟩) rfl rfl rfl (by kernel_rfl) pp0) rfl rfl (pbPx (ob' := ⟨0, 1, false, true, false, true, [⟨.imm, 1, 2, .row 4 (List.map e_S_Bond x27.list)⟩, ⟨.imm, 1, 0, .sc (.int .i64 x27.presses)⟩, ⟨.sh, 1, 0, .row 1 (List.map eI x27.order)⟩, ⟨.sh, 1, 0, .row 1 (List.map eI x27.best)⟩, ⟨.imm, 1, 0, .sc (.int .i64 x27.least)⟩, ⟨.imm, 1, 0, .sc (.int .i64 x27.nodes)⟩, ⟨.imm, 1, 0, .sc (.int .i64 x27.budget)⟩, ⟨.imm, 1, 0, .sc (.bool x27.full)⟩]⟩) rfl rfl (by kernel_rfl) pb0) rfl rfl rfl) <| nl) ?_
        refine Unw.seq ?_
        refine Go.seq ?_
        refine Go.seq ?_
        refine Go.r1 c54 rfl rfl (st1 := mk [(9, .v false [.mp 25 0 0])] [(25, some ⟨0, 0, false, true, false, true, [⟨.imm, 0, 2, .row 4 (List.map e_S_Bond x27.list)⟩, ⟨.imm, 0, 0, .sc (.int .i64 x27.presses)⟩, ⟨.sh, 0, 0, .row 1 (List.map eI x27.order)⟩, ⟨.sh, 0, 0, .row 1 (List.map eI x27.best)⟩, ⟨.imm, 0, 0, .sc (.int .i64 x27.least)⟩, ⟨.imm, 0, 0, .sc (.int .i64 x27.nodes)⟩, ⟨.imm, 0, 0, .sc (.int .i64 x27.budget)⟩, ⟨.imm, 0, 0, .sc (.bool x27.full)⟩]⟩)]) (by kernel_rfl) (sq z54 (oMv rfl rfl) <| sq z54 (oNl rfl rfl rfl) <| sq z54 (oFA (r' := .mp 25 0 7) rfl fF208_7 rfl rfl) <| sq z54 (oLd (cs := [.im 0 _]) rfl tF4 rfl rfl) <| nl) ?_
        refine Unw.seq ?_
        by_cases hc4 : x27.full = true
        · rw [if_pos hc4] at h
          refine Go.condT rfl (Iff.rfl.2 hc4) ?_
          refine Go.seq ?_
          refine Go.r0 c54 rfl rfl (sq z54 (oAsN rfl rfl eF27) <| sq z54 (oAsI rfl rfl) <| sq z54 (oAsI rfl rfl) <| nl) ?_
          refine Unw.seq ?_
          refine Go.ret (Unw.ret ?_)
          cases h
          exact Fin_ret (fin_of rfl rF54 rfl (by kernel_rfl))
        · rw [if_neg hc4] at h
          refine Go.condF rfl (byF Iff.rfl hc4) ?_
          refine Go.skip ?_
          refine Unw.seq ?_
          refine Go.seq ?_
          refine Go.dr c54 rfl rfl rfl rfl (mk [(6, .v false [.own 6 0 0]), (7, iv x27.least), (8, iv 0)] [(6, some ⟨0, 0, false, false, false, false, [⟨.sh, 0, 0, .row 1 (List.map eI x27.best)⟩]⟩)]) (sT rfl (dN z54 rfl (oMv rfl rfl)) <| sT rfl (dN z54 rfl (oNl rfl rfl rfl)) <| sT rfl (dN z54 rfl (oFA (r' := .mp 25 0 3) rfl fF208_3 rfl rfl)) <| sT rfl (dN z54 rfl (oLd (cs := [.own 25 0 3]) rfl tF27 rfl rfl)) <| sT rfl (dN z54 rfl (oMv rfl rfl)) <| sF (dN z54 rfl (oNl rfl rfl rfl)) trivial (sF (dN z54 rfl (oFA (r' := .mp 25 0 4) rfl fF208_4 rfl rfl)) trivial (sF (dN z54 rfl (oLd (cs := [.im 0 _]) rfl tF2 rfl rfl)) trivial (sS (dN z54 rfl (oAsO rfl rfl rfl rfl rfl)) trivial (sS (dN z54 rfl (oAsI rfl rfl)) trivial (sS (dN z54 rfl (oAsI rfl rfl)) trivial (sD (by kernel_rfl))))) (sS (dN z54 rfl (oAsO rfl rfl rfl rfl rfl)) trivial (sT rfl (dN z54 rfl (oLd (cs := [.im 0 _]) rfl tF2 rfl rfl)) <| sS (dN z54 rfl (oAsI rfl rfl)) trivial (sS (dN z54 rfl (oAsI rfl rfl)) trivial (sD (by kernel_rfl)))))) (sS (dN z54 rfl (oAsO rfl rfl rfl rfl rfl)) trivial (sT rfl (dN z54 rfl (oFA (r' := .mp 25 0 4) rfl fF208_4 rfl rfl)) <| sT rfl (dN z54 rfl (oLd (cs := [.im 0 _]) rfl tF2 rfl rfl)) <| sS (dN z54 rfl (oAsI rfl rfl)) trivial (sS (dN z54 rfl (oAsI rfl rfl)) trivial (sD (by kernel_rfl)))))) (sS (dN z54 rfl (oAsO rfl rfl rfl rfl rfl)) trivial (sT rfl (dN z54 rfl (oNl rfl rfl rfl)) <| sT rfl (dN z54 rfl (oFA (r' := .mp 25 0 4) rfl fF208_4 rfl rfl)) <| sT rfl (dN z54 rfl (oLd (cs := [.im 0 _]) rfl tF2 rfl rfl)) <| sS (dN z54 rfl (oAsI rfl rfl)) trivial (sS (dN z54 rfl (oAsI rfl rfl)) trivial (sD (by kernel_rfl)))))) ?_
          refine Unw.seq ?_
          refine Go.ret (Unw.ret ?_)
          cases h
          exact Fin_ret (fin_of rfl rF54 rfl (by kernel_rfl))
  · rw [if_neg hc1] at h
    refine Go.condT rfl (nT (byF Iff.rfl hc1)) ?_
    refine Go.seq ?_
    refine Go.r0 c54 rfl rfl (sq z54 (oAsN rfl rfl eF27) <| sq z54 (oAsI rfl rfl) <| sq z54 (oAsI rfl rfl) <| nl) ?_
    refine Unw.seq ?_
    refine Go.ret (Unw.ret ?_)
    cases h
    exact Fin_ret (fin_of rfl rF54 rfl (by kernel_rfl))
theorem L_impl_IsName {s_0 : ByteArray} {r : Bool} (h : impl_IsName s_0 = some r) : FL Try.prog cfg 250 [.im 2 false [.sc (.string s_0)]] = some ([(false, [.im 0 (.sc (.bool r))])], []) := by
  unfold impl_IsName at h
  refine FL_goS (A := [(0, .v false [.im 2 (.sc (.string s_0))])]) (B := [(0, none)]) (nt := 50) rfl rfl Try.func250 rfl rfl rfl rfl ?_
  refine Go.seq ?_
  refine Go.r0 c250 rfl rfl (sq z250 (oAsI rfl rfl) <| nl) ?_
  refine Unw.seq ?_
  refine Go.seq ?_
  refine Go.seq ?_
  obtain ⟨t_21_m1, hm26, h⟩ := bs h
  refine Go.rX c250 rfl rfl rfl (mk [(0, sv s_0), (21, bv t_21_m1)] []) ?_ ?_
  · by_cases hc1 : (s_0.size : Int) < 1
    · rw [if_pos hc1] at hm26
      cases hm26
      exact ⟨_, sq z250 (oMv rfl rfl) <| sq z250 (oLnS rfl rfl uF9 rfl) <| sq z250 (oBi rfl rfl rfl rfl) <| sq z250 (oMv rfl rfl) <| sgF rfl rfl (iDec.2 hc1) rfl <| sgF rfl rfl (iDec.2 hc1) rfl <| sgF rfl rfl (iDec.2 hc1) rfl <| sq z250 (oPkT rfl rfl (iDec.2 hc1) rfl) <| sq z250 (oMv rfl rfl) <| sgF rfl rfl rfl rfl <| sgF rfl rfl rfl rfl <| sgF rfl rfl rfl rfl <| sq z250 (oPkT rfl rfl rfl rfl) <| sq z250 (oMv rfl rfl) <| sgF rfl rfl rfl rfl <| sgF rfl rfl rfl rfl <| sgF rfl rfl rfl rfl <| sq z250 (oPkT rfl rfl rfl rfl) <| nl, (by kernel_rfl)⟩
    · rw [if_neg hc1] at hm26
      by_cases hc2 : (s_0.size : Int) > 10
      · rw [if_pos hc2] at hm26
        cases hm26
        exact ⟨_, sq z250 (oMv rfl rfl) <| sq z250 (oLnS rfl rfl uF9 rfl) <| sq z250 (oBi rfl rfl rfl rfl) <| sq z250 (oMv rfl rfl) <| sgT z250 rfl rfl (byF iDec hc1) (oMv rfl rfl) <| sgT z250 rfl rfl (byF iDec hc1) (oLnS rfl rfl uF9 rfl) <| sgT z250 rfl rfl (byF iDec hc1) (oBi rfl rfl rfl rfl) <| sq z250 (oPkF rfl rfl (byF iDec hc1) rfl) <| sq z250 (oMv rfl rfl) <| sgF rfl rfl (iDec.2 hc2) rfl <| sgF rfl rfl (iDec.2 hc2) rfl <| sgF rfl rfl (iDec.2 hc2) rfl <| sq z250 (oPkT rfl rfl (iDec.2 hc2) rfl) <| sq z250 (oMv rfl rfl) <| sgF rfl rfl rfl rfl <| sgF rfl rfl rfl rfl <| sgF rfl rfl rfl rfl <| sq z250 (oPkT rfl rfl rfl rfl) <| nl, (by kernel_rfl)⟩
      · rw [if_neg hc2] at hm26
        obtain ⟨x14, hx14, hm26⟩ := bs hm26
        by_cases hc3 : x14 < 97
        · rw [if_pos hc3] at hm26
          cases hm26
          exact ⟨_, sq z250 (oMv rfl rfl) <| sq z250 (oLnS rfl rfl uF9 rfl) <| sq z250 (oBi rfl rfl rfl rfl) <| sq z250 (oMv rfl rfl) <| sgT z250 rfl rfl (byF iDec hc1) (oMv rfl rfl) <| sgT z250 rfl rfl (byF iDec hc1) (oLnS rfl rfl uF9 rfl) <| sgT z250 rfl rfl (byF iDec hc1) (oBi rfl rfl rfl rfl) <| sq z250 (oPkF rfl rfl (byF iDec hc1) rfl) <| sq z250 (oMv rfl rfl) <| sgT z250 rfl rfl (byF iDec hc2) (oMv rfl rfl) <| sgT z250 rfl rfl (byF iDec hc2) (oIx rfl hx14 uF9 rfl rfl) <| sgT z250 rfl rfl (byF iDec hc2) (oBi rfl rfl rfl rfl) <| sq z250 (oPkF rfl rfl (byF iDec hc2) rfl) <| sq z250 (oMv rfl rfl) <| sgF rfl rfl (iDec.2 hc3) rfl <| sgF rfl rfl (iDec.2 hc3) rfl <| sgF rfl rfl (iDec.2 hc3) rfl <| sq z250 (oPkT rfl rfl (iDec.2 hc3) rfl) <| nl, (by kernel_rfl)⟩
        · rw [if_neg hc3] at hm26
          obtain ⟨x19, hx19, hm26⟩ := bs hm26
          cases hm26
          exact ⟨_, sq z250 (oMv rfl rfl) <| sq z250 (oLnS rfl rfl uF9 rfl) <| sq z250 (oBi rfl rfl rfl rfl) <| sq z250 (oMv rfl rfl) <| sgT z250 rfl rfl (byF iDec hc1) (oMv rfl rfl) <| sgT z250 rfl rfl (byF iDec hc1) (oLnS rfl rfl uF9 rfl) <| sgT z250 rfl rfl (byF iDec hc1) (oBi rfl rfl rfl rfl) <| sq z250 (oPkF rfl rfl (byF iDec hc1) rfl) <| sq z250 (oMv rfl rfl) <| sgT z250 rfl rfl (byF iDec hc2) (oMv rfl rfl) <| sgT z250 rfl rfl (byF iDec hc2) (oIx rfl hx14 uF9 rfl rfl) <| sgT z250 rfl rfl (byF iDec hc2) (oBi rfl rfl rfl rfl) <| sq z250 (oPkF rfl rfl (byF iDec hc2) rfl) <| sq z250 (oMv rfl rfl) <| sgT z250 rfl rfl (byF iDec hc3) (oMv rfl rfl) <| sgT z250 rfl rfl (byF iDec hc3) (oIx rfl hx19 uF9 rfl rfl) <| sgT z250 rfl rfl (byF iDec hc3) (oBi rfl rfl rfl rfl) <| sq z250 (oPkF rfl rfl (byF iDec hc3) rfl) <| nl, (by kernel_rfl)⟩
  · refine Unw.seq ?_
    by_cases hc4 : t_21_m1 = true
    · rw [if_pos hc4] at h
      refine Go.condT rfl (Iff.rfl.2 hc4) ?_
      refine Go.seq ?_
      refine Go.r0 c250 rfl rfl (sq z250 (oAsI rfl rfl) <| nl) ?_
      refine Unw.seq ?_
      refine Go.ret (Unw.ret ?_)
      cases h
      exact Fin_ret (fin_of rfl rF250 rfl (by kernel_rfl))
    · rw [if_neg hc4] at h
      refine Go.condF rfl (byF Iff.rfl hc4) ?_
      refine Go.skip ?_
      refine Unw.seq ?_
      refine Go.seq ?_
      refine Go.seq ?_
      refine Go.r0 c250 rfl rfl (sq z250 (oAsI rfl rfl) <| nl) ?_
      refine Unw.seq ?_
      refine Go.block ?_
      obtain ⟨o, hl, h⟩ := bs h
      refine Go.lp c250 rfl _ (fun (i_3_l4 : Int) => mk [(0, sv s_0), (3, iv i_3_l4)] []) (fun (o : (Unit ⊕ Bool)) (p : Ex × St) => match o with | (.inl _) => p.1 = .exit 0 ∧ p.2.norm ([], []) = mk [] [] | (.inr r2) => p.1 = .ret ∧ fin Try.prog cfg 250 Try.f250 [.im 2 false [.sc (.string s_0)]] p.2 = some ([(false, [.im 0 (.sc (.bool r2))])], [])) hl (by kernel_rfl) ?_ ?_ ?_
      · intro o p hp e
        rcases o with u | r2 <;> exact nomatch (hp.1.symm.trans e)
      · rintro i_3_l4 o h
        unfold impl_IsName_l4 at h
        refine Go.seq ?_
        refine Go.seq ?_
        refine Go.r0 c250 rfl rfl (sq z250 (oMv rfl rfl) <| sq z250 (oMv rfl rfl) <| sq z250 (oLnS rfl rfl uF9 rfl) <| sq z250 (oBi rfl rfl rfl rfl) <| nl) ?_
        refine Unw.seq ?_
        by_cases hc19 : i_3_l4 < (s_0.size : Int)
        · rw [if_pos hc19] at h
          refine Go.condT rfl (iDec.2 hc19) ?_
          refine Go.skip ?_
          refine Unw.seq ?_
          refine Go.seq ?_
          refine Go.block ?_
          refine Go.seq ?_
          obtain ⟨x30, hx30, h⟩ := bs h
          obtain ⟨t_49_m6, hm25, h⟩ := bs h
          refine Go.rX c250 rfl rfl rfl (mk [(0, sv s_0), (3, iv i_3_l4), (49, bv t_49_m6)] []) ?_ ?_
          · by_cases hc20 : x30 < 97
            · rw [if_pos hc20] at hm25
              obtain ⟨x41, hx41, hm25⟩ := bs hm25
              by_cases hc21 : x41 < 48
              · rw [if_pos hc21] at hm25
                cases hm25
                exact ⟨_, sq z250 (oMv rfl rfl) <| sq z250 (oMv rfl rfl) <| sq z250 (oIx rfl hx30 uF9 rfl rfl) <| sq z250 (oBi rfl rfl rfl rfl) <| sq z250 (oMv rfl rfl) <| sgF rfl rfl (iDec.2 hc20) rfl <| sgF rfl rfl (iDec.2 hc20) rfl <| sgF rfl rfl (iDec.2 hc20) rfl <| sgF rfl rfl (iDec.2 hc20) rfl <| sq z250 (oPkT rfl rfl (iDec.2 hc20) rfl) <| sq z250 (oMv rfl rfl) <| sgT z250 rfl rfl rfl (oMv rfl rfl) <| sgT z250 rfl rfl rfl (oMv rfl rfl) <| sgT z250 rfl rfl rfl (oIx rfl hx41 uF9 rfl rfl) <| sgT z250 rfl rfl rfl (oBi rfl rfl rfl rfl) <| sgT z250 rfl rfl rfl (oMv rfl rfl) <| sgF rfl rfl (iDec.2 hc21) rfl <| sgF rfl rfl (iDec.2 hc21) rfl <| sgF rfl rfl (iDec.2 hc21) rfl <| sgF rfl rfl (iDec.2 hc21) rfl <| sgT z250 rfl rfl rfl (oPkT rfl rfl (iDec.2 hc21) rfl) <| sq z250 (oPkT rfl rfl rfl rfl) <| nl, (by kernel_rfl)⟩
              · rw [if_neg hc21] at hm25
                obtain ⟨x46, hx46, hm25⟩ := bs hm25
                cases hm25
                exact ⟨_, sq z250 (oMv rfl rfl) <| sq z250 (oMv rfl rfl) <| sq z250 (oIx rfl hx30 uF9 rfl rfl) <| sq z250 (oBi rfl rfl rfl rfl) <| sq z250 (oMv rfl rfl) <| sgF rfl rfl (iDec.2 hc20) rfl <| sgF rfl rfl (iDec.2 hc20) rfl <| sgF rfl rfl (iDec.2 hc20) rfl <| sgF rfl rfl (iDec.2 hc20) rfl <| sq z250 (oPkT rfl rfl (iDec.2 hc20) rfl) <| sq z250 (oMv rfl rfl) <| sgT z250 rfl rfl rfl (oMv rfl rfl) <| sgT z250 rfl rfl rfl (oMv rfl rfl) <| sgT z250 rfl rfl rfl (oIx rfl hx41 uF9 rfl rfl) <| sgT z250 rfl rfl rfl (oBi rfl rfl rfl rfl) <| sgT z250 rfl rfl rfl (oMv rfl rfl) <| sgT z250 rfl rfl (byF iDec hc21) (oMv rfl rfl) <| sgT z250 rfl rfl (byF iDec hc21) (oMv rfl rfl) <| sgT z250 rfl rfl (byF iDec hc21) (oIx rfl hx46 uF9 rfl rfl) <| sgT z250 rfl rfl (byF iDec hc21) (oBi rfl rfl rfl rfl) <| sgT z250 rfl rfl rfl (oPkF rfl rfl (byF iDec hc21) rfl) <| sq z250 (oPkT rfl rfl rfl rfl) <| nl, (by kernel_rfl)⟩
            · rw [if_neg hc20] at hm25
              obtain ⟨x35, hx35, hm25⟩ := bs hm25
              by_cases hc22 : x35 > 122
              · rw [if_pos hc22] at hm25
                obtain ⟨x41, hx41, hm25⟩ := bs hm25
                by_cases hc23 : x41 < 48
                · rw [if_pos hc23] at hm25
                  cases hm25
                  exact ⟨_, sq z250 (oMv rfl rfl) <| sq z250 (oMv rfl rfl) <| sq z250 (oIx rfl hx30 uF9 rfl rfl) <| sq z250 (oBi rfl rfl rfl rfl) <| sq z250 (oMv rfl rfl) <| sgT z250 rfl rfl (byF iDec hc20) (oMv rfl rfl) <| sgT z250 rfl rfl (byF iDec hc20) (oMv rfl rfl) <| sgT z250 rfl rfl (byF iDec hc20) (oIx rfl hx35 uF9 rfl rfl) <| sgT z250 rfl rfl (byF iDec hc20) (oBi rfl rfl rfl rfl) <| sq z250 (oPkF rfl rfl (byF iDec hc20) rfl) <| sq z250 (oMv rfl rfl) <| sgT z250 rfl rfl (iDec.2 hc22) (oMv rfl rfl) <| sgT z250 rfl rfl (iDec.2 hc22) (oMv rfl rfl) <| sgT z250 rfl rfl (iDec.2 hc22) (oIx rfl hx41 uF9 rfl rfl) <| sgT z250 rfl rfl (iDec.2 hc22) (oBi rfl rfl rfl rfl) <| sgT z250 rfl rfl (iDec.2 hc22) (oMv rfl rfl) <| sgF rfl rfl (iDec.2 hc23) rfl <| sgF rfl rfl (iDec.2 hc23) rfl <| sgF rfl rfl (iDec.2 hc23) rfl <| sgF rfl rfl (iDec.2 hc23) rfl <| sgT z250 rfl rfl (iDec.2 hc22) (oPkT rfl rfl (iDec.2 hc23) rfl) <| sq z250 (oPkT rfl rfl (iDec.2 hc22) rfl) <| nl, (by kernel_rfl)⟩
                · rw [if_neg hc23] at hm25
                  obtain ⟨x46, hx46, hm25⟩ := bs hm25
                  cases hm25
                  exact ⟨_, sq z250 (oMv rfl rfl) <| sq z250 (oMv rfl rfl) <| sq z250 (oIx rfl hx30 uF9 rfl rfl) <| sq z250 (oBi rfl rfl rfl rfl) <| sq z250 (oMv rfl rfl) <| sgT z250 rfl rfl (byF iDec hc20) (oMv rfl rfl) <| sgT z250 rfl rfl (byF iDec hc20) (oMv rfl rfl) <| sgT z250 rfl rfl (byF iDec hc20) (oIx rfl hx35 uF9 rfl rfl) <| sgT z250 rfl rfl (byF iDec hc20) (oBi rfl rfl rfl rfl) <| sq z250 (oPkF rfl rfl (byF iDec hc20) rfl) <| sq z250 (oMv rfl rfl) <| sgT z250 rfl rfl (iDec.2 hc22) (oMv rfl rfl) <| sgT z250 rfl rfl (iDec.2 hc22) (oMv rfl rfl) <| sgT z250 rfl rfl (iDec.2 hc22) (oIx rfl hx41 uF9 rfl rfl) <| sgT z250 rfl rfl (iDec.2 hc22) (oBi rfl rfl rfl rfl) <| sgT z250 rfl rfl (iDec.2 hc22) (oMv rfl rfl) <| sgT z250 rfl rfl (byF iDec hc23) (oMv rfl rfl) <| sgT z250 rfl rfl (byF iDec hc23) (oMv rfl rfl) <| sgT z250 rfl rfl (byF iDec hc23) (oIx rfl hx46 uF9 rfl rfl) <| sgT z250 rfl rfl (byF iDec hc23) (oBi rfl rfl rfl rfl) <| sgT z250 rfl rfl (iDec.2 hc22) (oPkF rfl rfl (byF iDec hc23) rfl) <| sq z250 (oPkT rfl rfl (iDec.2 hc22) rfl) <| nl, (by kernel_rfl)⟩
              · rw [if_neg hc22] at hm25
                cases hm25
                exact ⟨_, sq z250 (oMv rfl rfl) <| sq z250 (oMv rfl rfl) <| sq z250 (oIx rfl hx30 uF9 rfl rfl) <| sq z250 (oBi rfl rfl rfl rfl) <| sq z250 (oMv rfl rfl) <| sgT z250 rfl rfl (byF iDec hc20) (oMv rfl rfl) <| sgT z250 rfl rfl (byF iDec hc20) (oMv rfl rfl) <| sgT z250 rfl rfl (byF iDec hc20) (oIx rfl hx35 uF9 rfl rfl) <| sgT z250 rfl rfl (byF iDec hc20) (oBi rfl rfl rfl rfl) <| sq z250 (oPkF rfl rfl (byF iDec hc20) rfl) <| sq z250 (oMv rfl rfl) <| sgF rfl rfl (byF iDec hc22) rfl <| sgF rfl rfl (byF iDec hc22) rfl <| sgF rfl rfl (byF iDec hc22) rfl <| sgF rfl rfl (byF iDec hc22) rfl <| sgF rfl rfl (byF iDec hc22) rfl <| sgU rfl rfl rfl <| sgU rfl rfl rfl <| sgU rfl rfl rfl <| sgU rfl rfl rfl <| sgF rfl rfl (byF iDec hc22) rfl <| sq z250 (oPkF rfl rfl (byF iDec hc22) rfl) <| nl, (by kernel_rfl)⟩
          · refine Unw.seq ?_
            by_cases hc24 : t_49_m6 = true
            · rw [if_pos hc24] at h
              refine Go.condT rfl (Iff.rfl.2 hc24) ?_
              refine Go.seq ?_
              refine Go.r0 c250 rfl rfl (sq z250 (oAsI rfl rfl) <| nl) ?_
              refine Unw.seq ?_
              refine Go.ret (Unw.ret ?_)
              cases h
              exact ⟨rfl, (fin_of rfl rF250 rfl (by kernel_rfl))⟩
            · rw [if_neg hc24] at h
              refine Go.condF rfl (byF Iff.rfl hc24) ?_
              refine Go.skip ?_
              refine Unw.blk ?_
              refine Unw.seq ?_
              refine Go.r0 c250 rfl rfl (sq z250 (oMv rfl rfl) <| sq z250 (oBi rfl rfl rfl rfl) <| sq z250 (oAsI rfl rfl) <| nl) ?_
              refine Unw.nil ?_
              cases h
              exact ⟨rfl, (by kernel_rfl)⟩
        · rw [if_neg hc19] at h
          refine Go.condF rfl (byF iDec hc19) ?_
          refine Go.exit ?_
          refine Unw.seqx ?_
          refine Unw.nil ?_
          cases h
          exact ⟨rfl, (by kernel_rfl)⟩
      · rintro ⟨e, st⟩ hp
        rcases o with u | r2
        · dsimp only at h
          obtain ⟨he, hst⟩ := hp
          obtain rfl : e = .exit 0 := he
          refine Unw.blkx ?_
          refine Unw.seq ?_
          refine Go.seq ?_
          refine Go.r1 c250 rfl rfl hst (sq z250 (oAsI rfl rfl) <| nl) ?_
          refine Unw.seq ?_
          refine Go.ret (Unw.ret ?_)
          cases h
          exact Fin_ret (fin_of rfl rF250 rfl (by kernel_rfl))
        · dsimp only at h
          obtain ⟨he, hfin⟩ := hp
          obtain rfl : e = .ret := he
          cases h
          exact Unw.ret (Fin_ret hfin)
theorem L_impl_within {n_0 : Int} {low_1 : Int} {high_2 : Int} {r : Bool} (h : impl_within n_0 low_1 high_2 = some r) : FL Try.prog cfg 92 [.im 2 false [.sc (.int .i64 n_0)], .im 2 false [.sc (.int .i64 low_1)], .im 2 false [.sc (.int .i64 high_2)]] = some ([(false, [.im 0 (.sc (.bool r))])], []) := by
  unfold impl_within at h
  refine FL_goS (A := [(0, .v false [.im 2 (.sc (.int .i64 n_0))]), (1, .v false [.im 2 (.sc (.int .i64 low_1))]), (2, .v false [.im 2 (.sc (.int .i64 high_2))])]) (B := [(0, none), (1, none), (2, none)]) (nt := 15) rfl rfl Try.func92 rfl rfl rfl rfl ?_
  refine Go.seq ?_
  refine Go.r0 c92 rfl rfl (sq z92 (oAsI rfl rfl) <| nl) ?_
  refine Unw.seq ?_
  refine Go.seq ?_
  refine Go.rX c92 rfl rfl rfl (mk [(6, bv ((decide (n_0 ≥ low_1)) && (decide (n_0 ≤ high_2))))] []) ?_ ?_
  · by_cases hc1 : n_0 ≥ low_1
    · exact ⟨_, sq z92 (oMv rfl rfl) <| sq z92 (oMv rfl rfl) <| sq z92 (oBi rfl rfl rfl rfl) <| sq z92 (oMv rfl rfl) <| sgT z92 rfl rfl (iDec.2 hc1) (oMv rfl rfl) <| sgT z92 rfl rfl (iDec.2 hc1) (oMv rfl rfl) <| sgT z92 rfl rfl (iDec.2 hc1) (oBi rfl rfl rfl rfl) <| sq z92 (oPkT rfl rfl (iDec.2 hc1) rfl) <| sq z92 (oAsI rfl rfl) <| nl, (Eq.trans (b := (fun t_6_m1 : Bool => mk [(6, bv t_6_m1)] []) (decide (n_0 ≤ high_2))) (by kernel_rfl) (congrArg (fun t_6_m1 : Bool => mk [(6, bv t_6_m1)] []) (by first | rfl | (simp [(iDec.2 hc1)]; done) | (simp [(iDec.2 hc1)]; omega))))⟩
    · exact ⟨_, sq z92 (oMv rfl rfl) <| sq z92 (oMv rfl rfl) <| sq z92 (oBi rfl rfl rfl rfl) <| sq z92 (oMv rfl rfl) <| sgF rfl rfl (byF iDec hc1) rfl <| sgF rfl rfl (byF iDec hc1) rfl <| sgF rfl rfl (byF iDec hc1) rfl <| sq z92 (oPkF rfl rfl (byF iDec hc1) rfl) <| sq z92 (oAsI rfl rfl) <| nl, (Eq.trans (b := (fun t_6_m1 : Bool => mk [(6, bv t_6_m1)] []) false) (by kernel_rfl) (congrArg (fun t_6_m1 : Bool => mk [(6, bv t_6_m1)] []) (by first | rfl | (simp [(byF iDec hc1)]; done) | (simp [(byF iDec hc1)]; omega))))⟩
  · refine Unw.seq ?_
    refine Go.ret (Unw.ret ?_)
    cases h
    exact Fin_ret (fin_of rfl rF92 rfl (by kernel_rfl))
theorem L_impl_ValidBond {b_0 : S_Bond} {r : Bool} (h : impl_ValidBond b_0 = some r) : FL Try.prog cfg 263 [.im 2 true [.sc (.string b_0.Name), .sc (.int .i64 b_0.Spread), .sc (.int .i64 b_0.Open), .sc (.int .i64 b_0.Press)]] = some ([(false, [.im 0 (.sc (.bool r))])], []) := by
  unfold impl_ValidBond at h
  refine FL_goS (A := [(0, .v true [.im 2 (.sc (.string b_0.Name)), .im 2 (.sc (.int .i64 b_0.Spread)), .im 2 (.sc (.int .i64 b_0.Open)), .im 2 (.sc (.int .i64 b_0.Press))])]) (B := [(0, none)]) (nt := 23) rfl rfl Try.func263 rfl rfl rfl rfl ?_
  refine Go.seq ?_
  refine Go.r0 c263 rfl rfl (sq z263 (oBx rfl tF209 rfl (tkI (tkI (tkI (tkI tk0))))) <| sq z263 (oAsI rfl rfl) <| nl) ?_
  refine Unw.seq ?_
  refine Go.seq ?_
  obtain ⟨x5, hx5, h⟩ := bs h
  obtain ⟨t_2_m1, hm4, h⟩ := bs h
  refine Go.rX c263 rfl rfl rfl (mk [(2, bv t_2_m1)] []) ?_ ?_
  · by_cases hc1 : x5 = true
    · rw [if_pos hc1] at hm4
      obtain ⟨x9, hx9, hm4⟩ := bs hm4
      by_cases hc2 : x9 = true
      · rw [if_pos hc2] at hm4
        obtain ⟨x16, hx16, hm4⟩ := bs hm4
        by_cases hc3 : x16 = true
        · rw [if_pos hc3] at hm4
          obtain ⟨x21, hx21, hm4⟩ := bs hm4
          cases hm4
          exact ⟨_, sq z263 (oFA (r' := .mp 1 0 0) rfl fF209_0 rfl rfl) <| sq z263 (oLd (cs := [.im 0 _]) rfl tF9 rfl rfl) <| sq z263 (oCa (xs := [.v false [.im 0 _]]) (vs := [(false, [.im 0 _])]) (v := .v false [.im 0 _]) (L_impl_IsName hx5) (.inl rfl) rfl kF250_9 rfl (ppC rfl pp0) rfl rfl pb0 rfl rfl rfl) <| sq z263 (oMv rfl rfl) <| sgT z263 rfl rfl (Iff.rfl.2 hc1) (oFA (r' := .mp 1 0 1) rfl fF209_1 rfl rfl) <| sgT z263 rfl rfl (Iff.rfl.2 hc1) (oLd (cs := [.im 0 _]) rfl tF2 rfl rfl) <| sgT z263 rfl rfl (Iff.rfl.2 hc1) (oCa (xs := [.v false [.im 0 _], .v false [.im 0 _], .v false [.im 0 _]]) (vs := [(false, [.im 0 _])]) (v := .v false [.im 0 _]) (L_impl_within hx9) (.inl rfl) rfl kF92_2_2_2 rfl (ppC rfl (ppC rfl (ppC rfl pp0))) rfl rfl pb0 rfl rfl rfl) <| sq z263 (oPkT rfl rfl (Iff.rfl.2 hc1) rfl) <| sq z263 (oMv rfl rfl) <| sgT z263 rfl rfl (Iff.rfl.2 hc2) (oFA (r' := .mp 1 0 2) rfl fF209_2 rfl rfl) <| sgT z263 rfl rfl (Iff.rfl.2 hc2) (oLd (cs := [.im 0 _]) rfl tF2 rfl rfl) <| sgT z263 rfl rfl (Iff.rfl.2 hc2) (oFA (r' := .mp 1 0 1) rfl fF209_1 rfl rfl) <| sgT z263 rfl rfl (Iff.rfl.2 hc2) (oLd (cs := [.im 0 _]) rfl tF2 rfl rfl) <| sgT z263 rfl rfl (Iff.rfl.2 hc2) (oCa (xs := [.v false [.im 0 _], .v false [.im 0 _], .v false [.im 0 _]]) (vs := [(false, [.im 0 _])]) (v := .v false [.im 0 _]) (L_impl_within hx16) (.inl rfl) rfl kF92_2_2_2 rfl (ppC rfl (ppC rfl (ppC rfl pp0))) rfl rfl pb0 rfl rfl rfl) <| sq z263 (oPkT rfl rfl (Iff.rfl.2 hc2) rfl) <| sq z263 (oMv rfl rfl) <| sgT z263 rfl rfl (Iff.rfl.2 hc3) (oFA (r' := .mp 1 0 3) rfl fF209_3 rfl rfl) <| sgT z263 rfl rfl (Iff.rfl.2 hc3) (oLd (cs := [.im 0 _]) rfl tF2 rfl rfl) <| sgT z263 rfl rfl (Iff.rfl.2 hc3) (oCa (xs := [.v false [.im 0 _], .v false [.im 0 _], .v false [.im 0 _]]) (vs := [(false, [.im 0 _])]) (v := .v false [.im 0 _]) (L_impl_within hx21) (.inl rfl) rfl kF92_2_2_2 rfl (ppC rfl (ppC rfl (ppC rfl pp0))) rfl rfl pb0 rfl rfl rfl) <| sq z263 (oPkT rfl rfl (Iff.rfl.2 hc3) rfl) <| sq z263 (oAsI rfl rfl) <| nl, (by kernel_rfl)⟩
        · rw [if_neg hc3] at hm4
          cases hm4
          exact ⟨_, sq z263 (oFA (r' := .mp 1 0 0) rfl fF209_0 rfl rfl) <| sq z263 (oLd (cs := [.im 0 _]) rfl tF9 rfl rfl) <| sq z263 (oCa (xs := [.v false [.im 0 _]]) (vs := [(false, [.im 0 _])]) (v := .v false [.im 0 _]) (L_impl_IsName hx5) (.inl rfl) rfl kF250_9 rfl (ppC rfl pp0) rfl rfl pb0 rfl rfl rfl) <| sq z263 (oMv rfl rfl) <| sgT z263 rfl rfl (Iff.rfl.2 hc1) (oFA (r' := .mp 1 0 1) rfl fF209_1 rfl rfl) <| sgT z263 rfl rfl (Iff.rfl.2 hc1) (oLd (cs := [.im 0 _]) rfl tF2 rfl rfl) <| sgT z263 rfl rfl (Iff.rfl.2 hc1) (oCa (xs := [.v false [.im 0 _], .v false [.im 0 _], .v false [.im 0 _]]) (vs := [(false, [.im 0 _])]) (v := .v false [.im 0 _]) (L_impl_within hx9) (.inl rfl) rfl kF92_2_2_2 rfl (ppC rfl (ppC rfl (ppC rfl pp0))) rfl rfl pb0 rfl rfl rfl) <| sq z263 (oPkT rfl rfl (Iff.rfl.2 hc1) rfl) <| sq z263 (oMv rfl rfl) <| sgT z263 rfl rfl (Iff.rfl.2 hc2) (oFA (r' := .mp 1 0 2) rfl fF209_2 rfl rfl) <| sgT z263 rfl rfl (Iff.rfl.2 hc2) (oLd (cs := [.im 0 _]) rfl tF2 rfl rfl) <| sgT z263 rfl rfl (Iff.rfl.2 hc2) (oFA (r' := .mp 1 0 1) rfl fF209_1 rfl rfl) <| sgT z263 rfl rfl (Iff.rfl.2 hc2) (oLd (cs := [.im 0 _]) rfl tF2 rfl rfl) <| sgT z263 rfl rfl (Iff.rfl.2 hc2) (oCa (xs := [.v false [.im 0 _], .v false [.im 0 _], .v false [.im 0 _]]) (vs := [(false, [.im 0 _])]) (v := .v false [.im 0 _]) (L_impl_within hx16) (.inl rfl) rfl kF92_2_2_2 rfl (ppC rfl (ppC rfl (ppC rfl pp0))) rfl rfl pb0 rfl rfl rfl) <| sq z263 (oPkT rfl rfl (Iff.rfl.2 hc2) rfl) <| sq z263 (oMv rfl rfl) <| sgF rfl rfl (byF Iff.rfl hc3) rfl <| sgF rfl rfl (byF Iff.rfl hc3) rfl <| sgF rfl rfl (byF Iff.rfl hc3) rfl <| sq z263 (oPkF rfl rfl (byF Iff.rfl hc3) rfl) <| sq z263 (oAsI rfl rfl) <| nl, (by kernel_rfl)⟩
      · rw [if_neg hc2] at hm4
        cases hm4
        exact ⟨_, sq z263 (oFA (r' := .mp 1 0 0) rfl fF209_0 rfl rfl) <| sq z263 (oLd (cs := [.im 0 _]) rfl tF9 rfl rfl) <| sq z263 (oCa (xs := [.v false [.im 0 _]]) (vs := [(false, [.im 0 _])]) (v := .v false [.im 0 _]) (L_impl_IsName hx5) (.inl rfl) rfl kF250_9 rfl (ppC rfl pp0) rfl rfl pb0 rfl rfl rfl) <| sq z263 (oMv rfl rfl) <| sgT z263 rfl rfl (Iff.rfl.2 hc1) (oFA (r' := .mp 1 0 1) rfl fF209_1 rfl rfl) <| sgT z263 rfl rfl (Iff.rfl.2 hc1) (oLd (cs := [.im 0 _]) rfl tF2 rfl rfl) <| sgT z263 rfl rfl (Iff.rfl.2 hc1) (oCa (xs := [.v false [.im 0 _], .v false [.im 0 _], .v false [.im 0 _]]) (vs := [(false, [.im 0 _])]) (v := .v false [.im 0 _]) (L_impl_within hx9) (.inl rfl) rfl kF92_2_2_2 rfl (ppC rfl (ppC rfl (ppC rfl pp0))) rfl rfl pb0 rfl rfl rfl) <| sq z263 (oPkT rfl rfl (Iff.rfl.2 hc1) rfl) <| sq z263 (oMv rfl rfl) <| sgF rfl rfl (byF Iff.rfl hc2) rfl <| sgF rfl rfl (byF Iff.rfl hc2) rfl <| sgF rfl rfl (byF Iff.rfl hc2) rfl <| sgF rfl rfl (byF Iff.rfl hc2) rfl <| sgF rfl rfl (byF Iff.rfl hc2) rfl <| sq z263 (oPkF rfl rfl (byF Iff.rfl hc2) rfl) <| sq z263 (oMv rfl rfl) <| sgF rfl rfl rfl rfl <| sgF rfl rfl rfl rfl <| sgF rfl rfl rfl rfl <| sq z263 (oPkF rfl rfl rfl rfl) <| sq z263 (oAsI rfl rfl) <| nl, (by kernel_rfl)⟩
    · rw [if_neg hc1] at hm4
      cases hm4
      exact ⟨_, sq z263 (oFA (r' := .mp 1 0 0) rfl fF209_0 rfl rfl) <| sq z263 (oLd (cs := [.im 0 _]) rfl tF9 rfl rfl) <| sq z263 (oCa (xs := [.v false [.im 0 _]]) (vs := [(false, [.im 0 _])]) (v := .v false [.im 0 _]) (L_impl_IsName hx5) (.inl rfl) rfl kF250_9 rfl (ppC rfl pp0) rfl rfl pb0 rfl rfl rfl) <| sq z263 (oMv rfl rfl) <| sgF rfl rfl (byF Iff.rfl hc1) rfl <| sgF rfl rfl (byF Iff.rfl hc1) rfl <| sgF rfl rfl (byF Iff.rfl hc1) rfl <| sq z263 (oPkF rfl rfl (byF Iff.rfl hc1) rfl) <| sq z263 (oMv rfl rfl) <| sgF rfl rfl rfl rfl <| sgF rfl rfl rfl rfl <| sgF rfl rfl rfl rfl <| sgF rfl rfl rfl rfl <| sgF rfl rfl rfl rfl <| sq z263 (oPkF rfl rfl rfl rfl) <| sq z263 (oMv rfl rfl) <| sgF rfl rfl rfl rfl <| sgF rfl rfl rfl rfl <| sgF rfl rfl rfl rfl <| sq z263 (oPkF rfl rfl rfl rfl) <| sq z263 (oAsI rfl rfl) <| nl, (by kernel_rfl)⟩
  · refine Unw.seq ?_
    refine Go.ret (Unw.ret ?_)
    cases h
    exact Fin_ret (fin_of rfl rF263 rfl (by kernel_rfl))
theorem L_impl_ValidBonds {list_0 : (List S_Bond)} {r : Bool} (h : impl_ValidBonds list_0 = some r) : FL Try.prog cfg 219 [.im 2 false [.row 4 (List.map e_S_Bond list_0)]] = some ([(false, [.im 0 (.sc (.bool r))])], []) := by
  unfold impl_ValidBonds at h
  refine FL_goS (A := [(0, .v false [.im 2 (.row 4 (List.map e_S_Bond list_0))])]) (B := [(0, none)]) (nt := 34) rfl rfl Try.func219 rfl rfl rfl rfl ?_
  refine Go.seq ?_
  refine Go.r0 c219 rfl rfl (sq z219 (oAsI rfl rfl) <| nl) ?_
  refine Unw.seq ?_
  refine Go.seq ?_
  refine Go.seq ?_
  refine Go.r0 c219 rfl rfl (sq z219 (oMv rfl rfl) <| sq z219 (oLnI rfl rfl uF81 rfl) <| sq z219 (oMv rfl rfl) <| nl) ?_
  refine Unw.seq ?_
  refine Go.block ?_
  obtain ⟨o, hl, h⟩ := bs h
  refine Go.lp c219 rfl _ (fun (t_7_l2 : Int) => mk [(0, .v false [.im 2 (.row 4 (List.map e_S_Bond list_0))]), (5, .v false [.im 2 (.row 4 (List.map e_S_Bond list_0))]), (6, iv (list_0.length : Int)), (7, iv t_7_l2)] []) (fun (o : (Unit ⊕ Bool)) (p : Ex × St) => match o with | (.inl _) => p.1 = .exit 0 ∧ p.2.norm ([0], []) = mk [(0, .v false [.im 2 (.row 4 (List.map e_S_Bond list_0))])] [] | (.inr r2) => p.1 = .ret ∧ fin Try.prog cfg 219 Try.f219 [.im 2 false [.row 4 (List.map e_S_Bond list_0)]] p.2 = some ([(false, [.im 0 (.sc (.bool r2))])], [])) hl (by kernel_rfl) ?_ ?_ ?_
  · intro o p hp e
    rcases o with u | r2 <;> exact nomatch (hp.1.symm.trans e)
  · rintro t_7_l2 o h
    unfold impl_ValidBonds_l2 at h
    refine Go.seq ?_
    refine Go.r0 c219 rfl rfl (sq z219 (oBi rfl rfl rfl rfl) <| nl) ?_
    refine Unw.seq ?_
    refine Go.seq ?_
    by_cases hc11 : t_7_l2 < (list_0.length : Int)
    · rw [if_pos hc11] at h
      refine Go.condT rfl (iDec.2 hc11) ?_
      refine Go.skip ?_
      refine Unw.seq ?_
      refine Go.seq ?_
      refine Go.block ?_
      refine Go.seq ?_
      obtain ⟨x10, hx10, h⟩ := bs h
      refine Go.r0 c219 rfl rfl (sq z219 (oMv rfl rfl) <| sq z219 (oIAI rfl hx10 sF81 rfl rfl) <| sq z219 (oLd (cs := [.im 2 _, .im 2 _, .im 2 _, .im 2 _]) rfl tF209 rfl rfl) <| sq z219 (oAl rfl tF209 (tkI (tkI (tkI (tkI tk0))))) <| sq z219 (oAsI rfl rfl) <| sq z219 (oSt tF209 rfl rfl rfl (tkI (tkI (tkI (tkI tk0)))) rfl rfl rfl) <| nl) ?_
      refine Unw.seq ?_
      refine Go.seq ?_
      obtain ⟨x13, hx13, h⟩ := bs h
      obtain ⟨t_29_m4, hm15, h⟩ := bs h
      refine Go.dr c219 rfl rfl rfl (st1 := mk [(0, .v false [.im 2 (.row 4 (List.map e_S_Bond list_0))]), (3, iv t_7_l2), (4, .v false [.mp 4 0 0]), (5, .v false [.im 2 (.row 4 (List.map e_S_Bond list_0))]), (6, iv (list_0.length : Int)), (7, iv t_7_l2)] [(4, some ⟨0, 0, false, true, false, true, [⟨.imm, 0, 0, .sc (.string x10.Name)⟩, ⟨.imm, 0, 0, .sc (.int .i64 x10.Spread)⟩, ⟨.imm, 0, 0, .sc (.int .i64 x10.Open)⟩, ⟨.imm, 0, 0, .sc (.int .i64 x10.Press)⟩]⟩)]) (by kernel_rfl) (mk [(0, .v false [.im 2 (.row 4 (List.map e_S_Bond list_0))]), (5, .v false [.im 2 (.row 4 (List.map e_S_Bond list_0))]), (6, iv (list_0.length : Int)), (7, iv t_7_l2), (29, bv t_29_m4)] []) ?_ ?_
      · by_cases hc12 : x13 = true
        · rw [if_pos hc12] at hm15
          by_cases hc13 : t_7_l2 > 0
          · rw [if_pos hc13] at hm15
            obtain ⟨x22, hx22, hm15⟩ := bs hm15
            cases hm15
            exact sT rfl (dN z219 rfl (oLd (cs := [.im 0 _, .im 0 _, .im 0 _, .im 0 _]) rfl tF209 rfl rfl)) <| sS (dN z219 rfl (oCa (xs := [.v true [.im 0 _, .im 0 _, .im 0 _, .im 0 _]]) (vs := [(false, [.im 0 _])]) (v := .v false [.im 0 _]) (L_impl_ValidBond hx13) (.inl rfl) rfl kF263_209 rfl (ppC rfl pp0) rfl rfl pb0 rfl rfl rfl)) trivial (sT rfl (dN z219 rfl (oUn rfl rfl rfl)) <| sT rfl (dN z219 rfl (oMv rfl rfl)) <| sT rfl (dT z219 rfl rfl rfl (nF (Iff.rfl.2 hc12)) (oMv rfl rfl)) <| sT rfl (dT z219 rfl rfl rfl (nF (Iff.rfl.2 hc12)) (oBi rfl rfl rfl rfl)) <| sT rfl (dT z219 rfl rfl rfl (nF (Iff.rfl.2 hc12)) (oMv rfl rfl)) <| sT rfl (dT z219 rfl rfl rfl (iDec.2 hc13) (oMv rfl rfl)) <| sT rfl (dT z219 rfl rfl rfl (iDec.2 hc13) (oMv rfl rfl)) <| sT rfl (dT z219 rfl rfl rfl (iDec.2 hc13) (oBi rfl rfl rfl rfl)) <| sT rfl (dT z219 rfl rfl rfl (iDec.2 hc13) (oIAI rfl hx22 sF81 rfl rfl)) <| sT rfl (dT z219 rfl rfl rfl (iDec.2 hc13) (oFA (r' := .im 2 _) rfl fF209_0 rfl rfl)) <| sT rfl (dT z219 rfl rfl rfl (iDec.2 hc13) (oLd (cs := [.im 2 _]) rfl tF9 rfl rfl)) <| sT rfl (dT z219 rfl rfl rfl (iDec.2 hc13) (oFA (r' := .mp 4 0 0) rfl fF209_0 rfl rfl)) <| sT rfl (dT z219 rfl rfl rfl (iDec.2 hc13) (oLd (cs := [.im 0 _]) rfl tF9 rfl rfl)) <| sT rfl (dT z219 rfl rfl rfl (iDec.2 hc13) (oBi rfl rfl rfl rfl)) <| sT rfl (dT z219 rfl rfl rfl (nF (Iff.rfl.2 hc12)) (oPkT rfl rfl (iDec.2 hc13) rfl)) <| sT rfl (dN z219 rfl (oPkF rfl rfl (nF (Iff.rfl.2 hc12)) rfl)) <| sD (by kernel_rfl))
          · rw [if_neg hc13] at hm15
            cases hm15
            exact sT rfl (dN z219 rfl (oLd (cs := [.im 0 _, .im 0 _, .im 0 _, .im 0 _]) rfl tF209 rfl rfl)) <| sS (dN z219 rfl (oCa (xs := [.v true [.im 0 _, .im 0 _, .im 0 _, .im 0 _]]) (vs := [(false, [.im 0 _])]) (v := .v false [.im 0 _]) (L_impl_ValidBond hx13) (.inl rfl) rfl kF263_209 rfl (ppC rfl pp0) rfl rfl pb0 rfl rfl rfl)) trivial (sT rfl (dN z219 rfl (oUn rfl rfl rfl)) <| sT rfl (dN z219 rfl (oMv rfl rfl)) <| sT rfl (dT z219 rfl rfl rfl (nF (Iff.rfl.2 hc12)) (oMv rfl rfl)) <| sT rfl (dT z219 rfl rfl rfl (nF (Iff.rfl.2 hc12)) (oBi rfl rfl rfl rfl)) <| sT rfl (dT z219 rfl rfl rfl (nF (Iff.rfl.2 hc12)) (oMv rfl rfl)) <| sT rfl (dF rfl rfl rfl (byF iDec hc13) rfl) <| sT rfl (dF rfl rfl rfl (byF iDec hc13) rfl) <| sT rfl (dF rfl rfl rfl (byF iDec hc13) rfl) <| sT rfl (dF rfl rfl rfl (byF iDec hc13) rfl) <| sT rfl (dF rfl rfl rfl (byF iDec hc13) rfl) <| sT rfl (dF rfl rfl rfl (byF iDec hc13) rfl) <| sT rfl (dF rfl rfl rfl (byF iDec hc13) rfl) <| sT rfl (dF rfl rfl rfl (byF iDec hc13) rfl) <| sT rfl (dF rfl rfl rfl (byF iDec hc13) rfl) <| sT rfl (dT z219 rfl rfl rfl (nF (Iff.rfl.2 hc12)) (oPkF rfl rfl (byF iDec hc13) rfl)) <| sT rfl (dN z219 rfl (oPkF rfl rfl (nF (Iff.rfl.2 hc12)) rfl)) <| sD (by kernel_rfl))
        · rw [if_neg hc12] at hm15
          cases hm15
          exact sT rfl (dN z219 rfl (oLd (cs := [.im 0 _, .im 0 _, .im 0 _, .im 0 _]) rfl tF209 rfl rfl)) <| sS (dN z219 rfl (oCa (xs := [.v true [.im 0 _, .im 0 _, .im 0 _, .im 0 _]]) (vs := [(false, [.im 0 _])]) (v := .v false [.im 0 _]) (L_impl_ValidBond hx13) (.inl rfl) rfl kF263_209 rfl (ppC rfl pp0) rfl rfl pb0 rfl rfl rfl)) trivial (sT rfl (dN z219 rfl (oUn rfl rfl rfl)) <| sT rfl (dN z219 rfl (oMv rfl rfl)) <| sT rfl (dF rfl rfl rfl (nT (byF Iff.rfl hc12)) rfl) <| sT rfl (dF rfl rfl rfl (nT (byF Iff.rfl hc12)) rfl) <| sT rfl (dF rfl rfl rfl (nT (byF Iff.rfl hc12)) rfl) <| sT rfl (dU rfl rfl rfl rfl) <| sT rfl (dU rfl rfl rfl rfl) <| sT rfl (dU rfl rfl rfl rfl) <| sT rfl (dU rfl rfl rfl rfl) <| sT rfl (dU rfl rfl rfl rfl) <| sT rfl (dU rfl rfl rfl rfl) <| sT rfl (dU rfl rfl rfl rfl) <| sT rfl (dU rfl rfl rfl rfl) <| sT rfl (dU rfl rfl rfl rfl) <| sT rfl (dF rfl rfl rfl (nT (byF Iff.rfl hc12)) rfl) <| sT rfl (dN z219 rfl (oPkT rfl rfl (nT (byF Iff.rfl hc12)) rfl)) <| sD (by kernel_rfl))
      · refine Unw.seq ?_
        by_cases hc14 : t_29_m4 = true
        · rw [if_pos hc14] at h
          refine Go.condT rfl (Iff.rfl.2 hc14) ?_
          refine Go.seq ?_
          refine Go.r0 c219 rfl rfl (sq z219 (oAsI rfl rfl) <| nl) ?_
          refine Unw.seq ?_
          refine Go.ret (Unw.ret ?_)
          cases h
          exact ⟨rfl, (fin_of rfl rF219 rfl (by kernel_rfl))⟩
        · rw [if_neg hc14] at h
          refine Go.condF rfl (byF Iff.rfl hc14) ?_
          refine Go.skip ?_
          refine Unw.blk ?_
          refine Unw.seq ?_
          refine Go.r0 c219 rfl rfl (sq z219 (oBi rfl rfl rfl rfl) <| sq z219 (oMv rfl rfl) <| nl) ?_
          refine Unw.nil ?_
          cases h
          exact ⟨rfl, (by kernel_rfl)⟩
    · rw [if_neg hc11] at h
      refine Go.condF rfl (byF iDec hc11) ?_
      refine Go.exit ?_
      refine Unw.seqx ?_
      refine Unw.nil ?_
      cases h
      exact ⟨rfl, (by kernel_rfl)⟩
  · rintro ⟨e, st⟩ hp
    rcases o with u | r2
    · dsimp only at h
      obtain ⟨he, hst⟩ := hp
      obtain rfl : e = .exit 0 := he
      refine Unw.blkx ?_
      refine Unw.seq ?_
      refine Go.seq ?_
      refine Go.r1 c219 rfl rfl hst (sq z219 (oMv rfl rfl) <| sq z219 (oLnI rfl rfl uF81 rfl) <| sq z219 (oBi rfl rfl rfl rfl) <| sq z219 (oAsI rfl rfl) <| nl) ?_
      refine Unw.seq ?_
      refine Go.ret (Unw.ret ?_)
      cases h
      exact Fin_ret (fin_of rfl rF219 rfl (by kernel_rfl))
    · dsimp only at h
      obtain ⟨he, hfin⟩ := hp
      obtain rfl : e = .ret := he
      cases h
      exact Unw.ret (Fin_ret hfin)
theorem L_impl_pressCode {list_0 : (List S_Bond)} {presses_1 : Int} {r : Int} (h : impl_pressCode list_0 presses_1 = some r) : FL Try.prog cfg 137 [.im 2 false [.row 4 (List.map e_S_Bond list_0)], .im 2 false [.sc (.int .i64 presses_1)]] = some ([(false, [.im 0 (.sc (.int .i64 r))])], []) := by
  unfold impl_pressCode at h
  refine FL_goS (A := [(0, .v false [.im 2 (.row 4 (List.map e_S_Bond list_0))]), (1, .v false [.im 2 (.sc (.int .i64 presses_1))])]) (B := [(0, none), (1, none)]) (nt := 13) rfl rfl Try.func137 rfl rfl rfl rfl ?_
  refine Go.seq ?_
  refine Go.r0 c137 rfl rfl (sq z137 (oAsI rfl rfl) <| nl) ?_
  refine Unw.seq ?_
  refine Go.seq ?_
  refine Go.block ?_
  refine Go.seq ?_
  obtain ⟨x7, hx7, h⟩ := bs h
  refine Go.r0 c137 rfl rfl (sq z137 (oMv rfl rfl) <| sq z137 (oCa (xs := [.v false [.im 2 _]]) (vs := [(false, [.im 0 _])]) (v := .v false [.im 0 _]) (L_impl_ValidBonds hx7) (.inl rfl) rfl kF219_81 rfl (ppC rfl pp0) rfl rfl pb0 rfl rfl rfl) <| sq z137 (oUn rfl rfl rfl) <| sq z137 (oAsI rfl rfl) <| nl) ?_
  refine Unw.seq ?_
  by_cases hc1 : x7 = true
  · rw [if_pos hc1] at h
    refine Go.condF rfl (nF (Iff.rfl.2 hc1)) ?_
    refine Go.seq ?_
    obtain ⟨x11, hx11, h⟩ := bs h
    refine Go.r0 c137 rfl rfl (sq z137 (oMv rfl rfl) <| sq z137 (oCa (xs := [.v false [.im 2 _], .v false [.im 0 _], .v false [.im 0 _]]) (vs := [(false, [.im 0 _])]) (v := .v false [.im 0 _]) (L_impl_within hx11) (.inl rfl) rfl kF92_2_2_2 rfl (ppC rfl (ppC rfl (ppC rfl pp0))) rfl rfl pb0 rfl rfl rfl) <| sq z137 (oUn rfl rfl rfl) <| sq z137 (oAsI rfl rfl) <| nl) ?_
    refine Unw.seq ?_
    by_cases hc2 : x11 = true
    · rw [if_pos hc2] at h
      refine Go.condF rfl (nF (Iff.rfl.2 hc2)) ?_
      refine Go.skip ?_
      refine Unw.blk ?_
      refine Unw.seq ?_
      refine Go.seq ?_
      refine Go.r0 c137 rfl rfl (sq z137 (oAsI rfl rfl) <| nl) ?_
      refine Unw.seq ?_
      refine Go.ret (Unw.ret ?_)
      cases h
      exact Fin_ret (fin_of rfl rF137 rfl (by kernel_rfl))
    · rw [if_neg hc2] at h
      refine Go.condT rfl (nT (byF Iff.rfl hc2)) ?_
      refine Go.seq ?_
      refine Go.r0 c137 rfl rfl (sq z137 (oAsI rfl rfl) <| nl) ?_
      refine Unw.seq ?_
      refine Go.ret (Unw.ret ?_)
      cases h
      exact Fin_ret (fin_of rfl rF137 rfl (by kernel_rfl))
  · rw [if_neg hc1] at h
    refine Go.condT rfl (nT (byF Iff.rfl hc1)) ?_
    refine Go.seq ?_
    refine Go.r0 c137 rfl rfl (sq z137 (oAsI rfl rfl) <| nl) ?_
    refine Unw.seq ?_
    refine Go.ret (Unw.ret ?_)
    cases h
    exact Fin_ret (fin_of rfl rF137 rfl (by kernel_rfl))
theorem L_slices_Index_int64_int64 {s_0 : (List Int)} {v_1 : Int} {r : Int} (h : slices_Index_int64_int64 s_0 v_1 = some r) : FL Try.prog cfg 230 [.im 2 false [.row 1 (List.map eI s_0)], .im 2 false [.sc (.int .i64 v_1)]] = some ([(false, [.im 0 (.sc (.int .i64 r))])], []) := by
  unfold slices_Index_int64_int64 at h
  refine FL_goS (A := [(0, .v false [.im 2 (.row 1 (List.map eI s_0))]), (1, .v false [.im 2 (.sc (.int .i64 v_1))])]) (B := [(0, none), (1, none)]) (nt := 19) rfl rfl Try.func230 rfl rfl rfl rfl ?_
  refine Go.seq ?_
  refine Go.r0 c230 rfl rfl (sq z230 (oAsI rfl rfl) <| nl) ?_
  refine Unw.seq ?_
  refine Go.seq ?_
  refine Go.seq ?_
  refine Go.r0 c230 rfl rfl (sq z230 (oMv rfl rfl) <| sq z230 (oLnI rfl rfl uF27 rfl) <| sq z230 (oMv rfl rfl) <| nl) ?_
  refine Unw.seq ?_
  refine Go.block ?_
  obtain ⟨o, hl, h⟩ := bs h
  refine Go.lp c230 rfl _ (fun (t_8_l2 : Int) => mk [(0, .v false [.im 2 (.row 1 (List.map eI s_0))]), (1, iv v_1), (7, iv (s_0.length : Int)), (8, iv t_8_l2)] []) (fun (o : (Unit ⊕ Int)) (p : Ex × St) => match o with | (.inl _) => p.1 = .exit 0 ∧ p.2.norm ([], []) = mk [] [] | (.inr r2) => p.1 = .ret ∧ fin Try.prog cfg 230 Try.f230 [.im 2 false [.row 1 (List.map eI s_0)], .im 2 false [.sc (.int .i64 v_1)]] p.2 = some ([(false, [.im 0 (.sc (.int .i64 r2))])], [])) hl (by kernel_rfl) ?_ ?_ ?_
  · intro o p hp e
    rcases o with u | r2 <;> exact nomatch (hp.1.symm.trans e)
  · rintro t_8_l2 o h
    unfold slices_Index_int64_int64_l2 at h
    refine Go.seq ?_
    refine Go.r0 c230 rfl rfl (sq z230 (oBi rfl rfl rfl rfl) <| nl) ?_
    refine Unw.seq ?_
    refine Go.seq ?_
    by_cases hc5 : t_8_l2 < (s_0.length : Int)
    · rw [if_pos hc5] at h
      refine Go.condT rfl (iDec.2 hc5) ?_
      refine Go.skip ?_
      refine Unw.seq ?_
      refine Go.seq ?_
      refine Go.block ?_
      refine Go.seq ?_
      refine Go.r0 c230 rfl rfl (sq z230 (oMv rfl rfl) <| sq z230 (oAsI rfl rfl) <| nl) ?_
      refine Unw.seq ?_
      refine Go.seq ?_
      obtain ⟨x14, hx14, h⟩ := bs h
      refine Go.r0 c230 rfl rfl (sq z230 (oMv rfl rfl) <| sq z230 (oMv rfl rfl) <| sq z230 (oMv rfl rfl) <| sq z230 (oIAI rfl hx14 sF27 rfl rfl) <| sq z230 (oLd (cs := [.im 2 _]) rfl tF2 rfl rfl) <| sq z230 (oBi rfl rfl rfl rfl) <| nl) ?_
      refine Unw.seq ?_
      by_cases hc6 : v_1 = x14
      · rw [if_pos hc6] at h
        refine Go.condT rfl (iEq.2 hc6) ?_
        refine Go.seq ?_
        refine Go.r0 c230 rfl rfl (sq z230 (oMv rfl rfl) <| sq z230 (oAsI rfl rfl) <| nl) ?_
        refine Unw.seq ?_
        refine Go.ret (Unw.ret ?_)
        cases h
        exact ⟨rfl, (fin_of rfl rF230 rfl (by kernel_rfl))⟩
      · rw [if_neg hc6] at h
        refine Go.condF rfl (byF iEq hc6) ?_
        refine Go.skip ?_
        refine Unw.blk ?_
        refine Unw.seq ?_
        refine Go.r0 c230 rfl rfl (sq z230 (oBi rfl rfl rfl rfl) <| sq z230 (oMv rfl rfl) <| nl) ?_
        refine Unw.nil ?_
        cases h
        exact ⟨rfl, (by kernel_rfl)⟩
    · rw [if_neg hc5] at h
      refine Go.condF rfl (byF iDec hc5) ?_
      refine Go.exit ?_
      refine Unw.seqx ?_
      refine Unw.nil ?_
      cases h
      exact ⟨rfl, (by kernel_rfl)⟩
  · rintro ⟨e, st⟩ hp
    rcases o with u | r2
    · dsimp only at h
      obtain ⟨he, hst⟩ := hp
      obtain rfl : e = .exit 0 := he
      refine Unw.blkx ?_
      refine Unw.seq ?_
      refine Go.seq ?_
      refine Go.r1 c230 rfl rfl hst (sq z230 (oAsI rfl rfl) <| nl) ?_
      refine Unw.seq ?_
      refine Go.ret (Unw.ret ?_)
      cases h
      exact Fin_ret (fin_of rfl rF230 rfl (by kernel_rfl))
    · dsimp only at h
      obtain ⟨he, hfin⟩ := hp
      obtain rfl : e = .ret := he
      cases h
      exact Unw.ret (Fin_ret hfin)
theorem L_slices_Contains_int64_int64 {s_0 : (List Int)} {v_1 : Int} {r : Bool} (h : slices_Contains_int64_int64 s_0 v_1 = some r) : FL Try.prog cfg 152 [.im 2 false [.row 1 (List.map eI s_0)], .im 2 false [.sc (.int .i64 v_1)]] = some ([(false, [.im 0 (.sc (.bool r))])], []) := by
  unfold slices_Contains_int64_int64 at h
  refine FL_goS (A := [(0, .v false [.im 2 (.row 1 (List.map eI s_0))]), (1, .v false [.im 2 (.sc (.int .i64 v_1))])]) (B := [(0, none), (1, none)]) (nt := 9) rfl rfl Try.func152 rfl rfl rfl rfl ?_
  refine Go.seq ?_
  refine Go.r0 c152 rfl rfl (sq z152 (oAsI rfl rfl) <| nl) ?_
  refine Unw.seq ?_
  refine Go.seq ?_
  obtain ⟨x7, hx7, h⟩ := bs h
  refine Go.r0 c152 rfl rfl (sq z152 (oMv rfl rfl) <| sq z152 (oMv rfl rfl) <| sq z152 (oCa (xs := [.v false [.im 2 _], .v false [.im 2 _]]) (vs := [(false, [.im 0 _])]) (v := .v false [.im 0 _]) (L_slices_Index_int64_int64 hx7) (.inl rfl) rfl kF230_27_2 rfl (ppC rfl (ppC rfl pp0)) rfl rfl pb0 rfl rfl rfl) <| sq z152 (oBi rfl rfl rfl rfl) <| sq z152 (oAsI rfl rfl) <| nl) ?_
  refine Unw.seq ?_
  refine Go.ret (Unw.ret ?_)
  cases h
  exact Fin_ret (fin_of rfl rF152 rfl (by kernel_rfl))
theorem L_impl_gluing_add {g_0 : S_gluing} {b_1 : S_Bond} {presses_2 : Int} {r : (S_glued × S_gluing)} (h : impl_gluing_add g_0 b_1 presses_2 = some r) : FL Try.prog cfg 220 [.ptr true [(.imm, .sc (.int .i64 g_0.ready)), (.imm, .sc (.int .i64 g_0.free.e0)), (.imm, .sc (.int .i64 g_0.free.e1)), (.imm, .sc (.int .i64 g_0.free.e2)), (.imm, .sc (.int .i64 g_0.free.e3)), (.imm, .sc (.int .i64 g_0.end_))], .im 2 true [.sc (.string b_1.Name), .sc (.int .i64 b_1.Spread), .sc (.int .i64 b_1.Open), .sc (.int .i64 b_1.Press)], .im 2 false [.sc (.int .i64 presses_2)]] = some ([(true, [.im 0 (.sc (.int .i64 r.1.start)), .im 0 (.sc (.int .i64 r.1.press)), .im 0 (.sc (.int .i64 r.1.begin)), .im 0 (.sc (.int .i64 r.1.end_))])], [.ptr true [(.imm, .sc (.int .i64 r.2.ready)), (.imm, .sc (.int .i64 r.2.free.e0)), (.imm, .sc (.int .i64 r.2.free.e1)), (.imm, .sc (.int .i64 r.2.free.e2)), (.imm, .sc (.int .i64 r.2.free.e3)), (.imm, .sc (.int .i64 r.2.end_))]]) := by
  unfold impl_gluing_add at h
  refine FL_goS (A := [(0, .v false [.mp 0 0 0]), (1, .v true [.im 2 (.sc (.string b_1.Name)), .im 2 (.sc (.int .i64 b_1.Spread)), .im 2 (.sc (.int .i64 b_1.Open)), .im 2 (.sc (.int .i64 b_1.Press))]), (2, .v false [.im 2 (.sc (.int .i64 presses_2))])]) (B := [(0, some ⟨0, 0, true, true, false, true, [⟨.imm, 0, 0, .sc (.int .i64 g_0.ready)⟩, ⟨.imm, 0, 0, .sc (.int .i64 g_0.free.e0)⟩, ⟨.imm, 0, 0, .sc (.int .i64 g_0.free.e1)⟩, ⟨.imm, 0, 0, .sc (.int .i64 g_0.free.e2)⟩, ⟨.imm, 0, 0, .sc (.int .i64 g_0.free.e3)⟩, ⟨.imm, 0, 0, .sc (.int .i64 g_0.end_)⟩]⟩), (1, none), (2, none)]) (nt := 87) rfl rfl Try.func220 rfl rfl rfl rfl ?_
  refine Go.seq ?_
  refine Go.r0 c220 rfl rfl (sq z220 (oBx rfl tF209 rfl (tkI (tkI (tkI (tkI tk0))))) <| sq z220 (oAl rfl tF279 (tkI (tkI (tkI (tkI tk0))))) <| nl) ?_
  refine Unw.seq ?_
  refine Go.seq ?_
  refine Go.r0 c220 rfl rfl (sq z220 (oAsI rfl rfl) <| nl) ?_
  refine Unw.seq ?_
  refine Go.seq ?_
  refine Go.seq ?_
  refine Go.r0 c220 rfl rfl (sq z220 (oMv rfl rfl) <| sq z220 (oMv rfl rfl) <| nl) ?_
  refine Unw.seq ?_
  refine Go.block ?_
  obtain ⟨o, hl, h⟩ := bs h
  refine Go.lp c220 rfl _ (fun (s : (Int × Int)) => match s with | (press_7_l3, t_12_l3) => mk [(0, .v false [.mp 0 0 0]), (4, .v false [.mp 4 0 0]), (6, .v false [.mp 6 0 0]), (7, iv press_7_l3), (11, iv presses_2), (12, iv t_12_l3)] [(0, some ⟨0, 0, true, true, false, true, [⟨.imm, 0, 0, .sc (.int .i64 g_0.ready)⟩, ⟨.imm, 0, 0, .sc (.int .i64 g_0.free.e0)⟩, ⟨.imm, 0, 0, .sc (.int .i64 g_0.free.e1)⟩, ⟨.imm, 0, 0, .sc (.int .i64 g_0.free.e2)⟩, ⟨.imm, 0, 0, .sc (.int .i64 g_0.free.e3)⟩, ⟨.imm, 0, 0, .sc (.int .i64 g_0.end_)⟩]⟩), (4, some ⟨0, 0, false, true, false, true, [⟨.imm, 0, 0, .sc (.string b_1.Name)⟩, ⟨.imm, 0, 0, .sc (.int .i64 b_1.Spread)⟩, ⟨.imm, 0, 0, .sc (.int .i64 b_1.Open)⟩, ⟨.imm, 0, 0, .sc (.int .i64 b_1.Press)⟩]⟩), (6, some ⟨0, 0, false, true, false, true, [⟨.imm, 0, 0, .sc (.int .i64 0)⟩, ⟨.imm, 0, 0, .sc (.int .i64 0)⟩, ⟨.imm, 0, 0, .sc (.int .i64 0)⟩, ⟨.imm, 0, 0, .sc (.int .i64 0)⟩]⟩)]) (fun (press_7_e0_3 : Int) (p : Ex × St) => p.1 = .exit 0 ∧ p.2.norm ([0, 4, 6, 7], [0, 4, 6]) = mk [(0, .v false [.mp 0 0 0]), (4, .v false [.mp 4 0 0]), (6, .v false [.mp 6 0 0]), (7, iv press_7_e0_3)] [(0, some ⟨0, 0, true, true, false, true, [⟨.imm, 0, 0, .sc (.int .i64 g_0.ready)⟩, ⟨.imm, 0, 0, .sc (.int .i64 g_0.free.e0)⟩, ⟨.imm, 0, 0, .sc (.int .i64 g_0.free.e1)⟩, ⟨.imm, 0, 0, .sc (.int .i64 g_0.free.e2)⟩, ⟨.imm, 0, 0, .sc (.int .i64 g_0.free.e3)⟩, ⟨.imm, 0, 0, .sc (.int .i64 g_0.end_)⟩]⟩), (4, some ⟨0, 0, false, true, false, true, [⟨.imm, 0, 0, .sc (.string b_1.Name)⟩, ⟨.imm, 0, 0, .sc (.int .i64 b_1.Spread)⟩, ⟨.imm, 0, 0, .sc (.int .i64 b_1.Open)⟩, ⟨.imm, 0, 0, .sc (.int .i64 b_1.Press)⟩]⟩), (6, some ⟨0, 0, false, true, false, true, [⟨.imm, 0, 0, .sc (.int .i64 0)⟩, ⟨.imm, 0, 0, .sc (.int .i64 0)⟩, ⟨.imm, 0, 0, .sc (.int .i64 0)⟩, ⟨.imm, 0, 0, .sc (.int .i64 0)⟩]⟩)]) hl (by kernel_rfl) ?_ ?_ ?_
  · intro o p hp e
    exact nomatch (hp.1.symm.trans e)
  · rintro ⟨press_7_l3, t_12_l3⟩ o h
    unfold impl_gluing_add_l3 at h
    dsimp only at h
    refine Go.seq ?_
    refine Go.r0 c220 rfl rfl (sq z220 (oBi rfl rfl rfl rfl) <| nl) ?_
    refine Unw.seq ?_
    refine Go.seq ?_
    by_cases hc11 : t_12_l3 < presses_2
    · rw [if_pos hc11] at h
      refine Go.condT rfl (iDec.2 hc11) ?_
      refine Go.skip ?_
      refine Unw.seq ?_
      refine Go.seq ?_
      refine Go.join (fun st => ∃ press_7_r7, impl_gluing_add_k7 t_12_l3 press_7_r7 = some o ∧ st.norm ([0, 4, 6, 7, 11, 12], [0, 4, 6]) = mk [(0, .v false [.mp 0 0 0]), (4, .v false [.mp 4 0 0]), (6, .v false [.mp 6 0 0]), (7, iv press_7_r7), (11, iv presses_2), (12, iv t_12_l3)] [(0, some ⟨0, 0, true, true, false, true, [⟨.imm, 0, 0, .sc (.int .i64 g_0.ready)⟩, ⟨.imm, 0, 0, .sc (.int .i64 g_0.free.e0)⟩, ⟨.imm, 0, 0, .sc (.int .i64 g_0.free.e1)⟩, ⟨.imm, 0, 0, .sc (.int .i64 g_0.free.e2)⟩, ⟨.imm, 0, 0, .sc (.int .i64 g_0.free.e3)⟩, ⟨.imm, 0, 0, .sc (.int .i64 g_0.end_)⟩]⟩), (4, some ⟨0, 0, false, true, false, true, [⟨.imm, 0, 0, .sc (.string b_1.Name)⟩, ⟨.imm, 0, 0, .sc (.int .i64 b_1.Spread)⟩, ⟨.imm, 0, 0, .sc (.int .i64 b_1.Open)⟩, ⟨.imm, 0, 0, .sc (.int .i64 b_1.Press)⟩]⟩), (6, some ⟨0, 0, false, true, false, true, [⟨.imm, 0, 0, .sc (.int .i64 0)⟩, ⟨.imm, 0, 0, .sc (.int .i64 0)⟩, ⟨.imm, 0, 0, .sc (.int .i64 0)⟩, ⟨.imm, 0, 0, .sc (.int .i64 0)⟩]⟩)]) ?_ ?_
      · rintro st ⟨press_7_r7, h, hst⟩
        unfold impl_gluing_add_k7 at h
        refine Unw.seq ?_
        refine Go.r1 c220 rfl rfl hst (sq z220 (oBi rfl rfl rfl rfl) <| sq z220 (oMv rfl rfl) <| nl) ?_
        refine Unw.nil ?_
        cases h
        exact ⟨rfl, (by kernel_rfl)⟩
      · intro K13
        refine Go.block ?_
        refine Go.seq ?_
        refine Go.r0 c220 rfl rfl (sq z220 (oMv rfl rfl) <| sq z220 (oAsI rfl rfl) <| nl) ?_
        refine Unw.seq ?_
        refine Go.seq ?_
        obtain ⟨x19, hx19, h⟩ := bs h
        obtain ⟨x20, hx20, h⟩ := bs h
        obtain ⟨x25, hx25, h⟩ := bs h
        obtain ⟨x26, hx26, h⟩ := bs h
        refine Go.dr c220 rfl rfl rfl rfl (mk [(0, .v false [.mp 0 0 0]), (4, .v false [.mp 4 0 0]), (6, .v false [.mp 6 0 0]), (7, iv press_7_l3), (8, iv t_12_l3), (11, iv presses_2), (12, iv t_12_l3), (27, bv (decide (x20 < x26)))] [(0, some ⟨0, 0, true, true, false, true, [⟨.imm, 0, 0, .sc (.int .i64 g_0.ready)⟩, ⟨.imm, 0, 0, .sc (.int .i64 g_0.free.e0)⟩, ⟨.imm, 0, 0, .sc (.int .i64 g_0.free.e1)⟩, ⟨.imm, 0, 0, .sc (.int .i64 g_0.free.e2)⟩, ⟨.imm, 0, 0, .sc (.int .i64 g_0.free.e3)⟩, ⟨.imm, 0, 0, .sc (.int .i64 g_0.end_)⟩]⟩), (4, some ⟨0, 0, false, true, false, true, [⟨.imm, 0, 0, .sc (.string b_1.Name)⟩, ⟨.imm, 0, 0, .sc (.int .i64 b_1.Spread)⟩, ⟨.imm, 0, 0, .sc (.int .i64 b_1.Open)⟩, ⟨.imm, 0, 0, .sc (.int .i64 b_1.Press)⟩]⟩), (6, some ⟨0, 0, false, true, false, true, [⟨.imm, 0, 0, .sc (.int .i64 0)⟩, ⟨.imm, 0, 0, .sc (.int .i64 0)⟩, ⟨.imm, 0, 0, .sc (.int .i64 0)⟩, ⟨.imm, 0, 0, .sc (.int .i64 0)⟩]⟩)]) (sT rfl (dN z220 rfl (oMv rfl rfl)) <| sT rfl (dN z220 rfl (oMv rfl rfl)) <| sT rfl (dN z220 rfl (oNl rfl rfl rfl)) <| sT rfl (dN z220 rfl (oFA (r' := .mp 0 0 1) rfl fF218_1 rfl rfl)) <| sT rfl (dN z220 rfl (oIAA (r' := .mp 0 0 (1 + (t_12_l3).toNat * 1)) rfl uF216 zF2 rfl (ix0 hx19) (ixB hx19) rfl rfl)) <| sT rfl (dN z220 rfl (oLd (cs := [.im 0 _]) rfl tF2 rfl (ldA (L := ([g_0.free.e0, g_0.free.e1, g_0.free.e2, g_0.free.e3] : List Int)) hx20 rfl rfl rfl rfl))) <| sT rfl (dN z220 rfl (oMv rfl rfl)) <| sT rfl (dN z220 rfl (oMv rfl rfl)) <| sT rfl (dN z220 rfl (oNl rfl rfl rfl)) <| sT rfl (dN z220 rfl (oFA (r' := .mp 0 0 1) rfl fF218_1 rfl rfl)) <| sT rfl (dN z220 rfl (oIAA (r' := .mp 0 0 (1 + (press_7_l3).toNat * 1)) rfl uF216 zF2 rfl (ix0 hx25) (ixB hx25) rfl rfl)) <| sT rfl (dN z220 rfl (oLd (cs := [.im 0 _]) rfl tF2 rfl (ldA (L := ([g_0.free.e0, g_0.free.e1, g_0.free.e2, g_0.free.e3] : List Int)) hx26 rfl rfl rfl rfl))) <| sT rfl (dN z220 rfl (oBi rfl rfl rfl rfl)) <| sD (by kernel_rfl)) ?_
        refine Unw.seq ?_
        by_cases hc14 : x20 < x26
        · rw [if_pos hc14] at h
          refine Go.condT rfl (iDec.2 hc14) ?_
          refine Go.r0 c220 rfl rfl (sq z220 (oMv rfl rfl) <| sq z220 (oAsI rfl rfl) <| nl) ?_
          refine Unw.blk ?_
          exact K13 _ ⟨t_12_l3, h, (by kernel_rfl)⟩
        · rw [if_neg hc14] at h
          refine Go.condF rfl (byF iDec hc14) ?_
          refine Go.skip ?_
          refine Unw.blk ?_
          exact K13 _ ⟨press_7_l3, h, (by kernel_rfl)⟩
    · rw [if_neg hc11] at h
      refine Go.condF rfl (byF iDec hc11) ?_
      refine Go.exit ?_
      refine Unw.seqx ?_
      refine Unw.nil ?_
      cases h
      exact ⟨rfl, (by kernel_rfl)⟩
  · rintro ⟨e, st⟩ hp
    obtain ⟨press_7_e0_3, rfl⟩ : ∃ y, y = o := ⟨o, rfl⟩
    obtain ⟨he, hst⟩ := hp
    obtain rfl : e = .exit 0 := he
    refine Unw.blkx ?_
    refine Unw.seq ?_
    refine Go.seq ?_
    obtain ⟨x34, hx34, h⟩ := bs h
    obtain ⟨x35, hx35, h⟩ := bs h
    refine Go.r1 c220 rfl rfl hst (sq z220 (oMv rfl rfl) <| sq z220 (oMv rfl rfl) <| sq z220 (oNl rfl rfl rfl) <| sq z220 (oFA (r' := .mp 0 0 1) rfl fF218_1 rfl rfl) <| sq z220 (oIAA (r' := .mp 0 0 (1 + (press_7_e0_3).toNat * 1)) rfl uF216 zF2 rfl (ix0 hx34) (ixB hx34) rfl rfl) <| sq z220 (oLd (cs := [.im 0 _]) rfl tF2 rfl (ldA (L := ([g_0.free.e0, g_0.free.e1, g_0.free.e2, g_0.free.e3] : List Int)) hx35 rfl rfl rfl rfl)) <| sq z220 (oAsI rfl rfl) <| nl) ?_
    refine Unw.seq ?_
    refine Go.seq ?_
    refine Go.dr c220 rfl rfl rfl rfl (mk [(0, .v false [.mp 0 0 0]), (4, .v false [.mp 4 0 0]), (6, .v false [.mp 6 0 0]), (7, iv press_7_e0_3), (9, iv x35), (10, .v false [.mp 10 0 0])] [(0, some ⟨0, 0, true, true, false, true, [⟨.imm, 0, 0, .sc (.int .i64 g_0.ready)⟩, ⟨.imm, 0, 0, .sc (.int .i64 g_0.free.e0)⟩, ⟨.imm, 0, 0, .sc (.int .i64 g_0.free.e1)⟩, ⟨.imm, 0, 0, .sc (.int .i64 g_0.free.e2)⟩, ⟨.imm, 0, 0, .sc (.int .i64 g_0.free.e3)⟩, ⟨.imm, 0, 0, .sc (.int .i64 g_0.end_)⟩]⟩), (4, some ⟨0, 0, false, true, false, true, [⟨.imm, 0, 0, .sc (.string b_1.Name)⟩, ⟨.imm, 0, 0, .sc (.int .i64 b_1.Spread)⟩, ⟨.imm, 0, 0, .sc (.int .i64 b_1.Open)⟩, ⟨.imm, 0, 0, .sc (.int .i64 b_1.Press)⟩]⟩), (6, some ⟨0, 0, false, true, false, true, [⟨.imm, 0, 0, .sc (.int .i64 0)⟩, ⟨.imm, 0, 0, .sc (.int .i64 0)⟩, ⟨.imm, 0, 0, .sc (.int .i64 0)⟩, ⟨.imm, 0, 0, .sc (.int .i64 0)⟩]⟩), (10, some ⟨0, 0, false, true, false, true, [⟨.imm, 0, 0, .sc (.int .i64 (max2 g_0.ready (w64 (x35 - b_1.Open))))⟩, ⟨.imm, 0, 0, .sc (.int .i64 press_7_e0_3)⟩, ⟨.imm, 0, 0, .sc (.int .i64 0)⟩, ⟨.imm, 0, 0, .sc (.int .i64 0)⟩]⟩)]) (sT rfl (dN z220 rfl (oMv rfl rfl)) <| sT rfl (dN z220 rfl (oNl rfl rfl rfl)) <| sT rfl (dN z220 rfl (oFA (r' := .mp 0 0 0) rfl fF218_0 rfl rfl)) <| sT rfl (dN z220 rfl (oLd (cs := [.im 0 _]) rfl tF2 rfl rfl)) <| sT rfl (dN z220 rfl (oMv rfl rfl)) <| sT rfl (dN z220 rfl (oFA (r' := .mp 4 0 2) rfl fF209_2 rfl rfl)) <| sT rfl (dN z220 rfl (oLd (cs := [.im 0 _]) rfl tF2 rfl rfl)) <| sT rfl (dN z220 rfl (oBi rfl rfl rfl rfl)) <| sT rfl (dN z220 rfl (oMv rfl rfl)) <| sF (dN z220 rfl (oMax rfl rfl)) trivial (sF (dN z220 rfl (oBu (cs := [.im 0 _, .im 0 _, .im 0 _, .im 0 _]) rfl bF279 rfl)) trivial (sS (dN z220 rfl (oAl rfl tF279 (tkI (tkI (tkI (tkI tk0)))))) trivial (sS (dN z220 rfl (oSt tF279 rfl rfl rfl (tkI (tkI (tkI (tkI tk0)))) rfl rfl rfl)) trivial (sD (by kernel_rfl)))) (sS (dN z220 rfl (oAl rfl tF279 (tkI (tkI (tkI (tkI tk0)))))) trivial (sS (dN z220 rfl (oBu (cs := [.im 0 _, .im 0 _, .im 0 _, .im 0 _]) rfl bF279 rfl)) trivial (sS (dN z220 rfl (oSt tF279 rfl rfl rfl (tkI (tkI (tkI (tkI tk0)))) rfl rfl rfl)) trivial (sD (by kernel_rfl)))))) (sS (dN z220 rfl (oAl rfl tF279 (tkI (tkI (tkI (tkI tk0)))))) trivial (sS (dN z220 rfl (oMax rfl rfl)) trivial (sS (dN z220 rfl (oBu (cs := [.im 0 _, .im 0 _, .im 0 _, .im 0 _]) rfl bF279 rfl)) trivial (sS (dN z220 rfl (oSt tF279 rfl rfl rfl (tkI (tkI (tkI (tkI tk0)))) rfl rfl rfl)) trivial (sD (by kernel_rfl))))))) ?_
    refine Unw.seq ?_
    refine Go.seq ?_
    refine Go.r0 c220 rfl rfl (sq z220 (oFA (r' := .mp 10 0 0) rfl fF279_0 rfl rfl) <| sq z220 (oLd (cs := [.im 0 _]) rfl tF2 rfl rfl) <| sq z220 (oFA (r' := .mp 4 0 1) rfl fF209_1 rfl rfl) <| sq z220 (oLd (cs := [.im 0 _]) rfl tF2 rfl rfl) <| sq z220 (oBi rfl rfl rfl rfl) <| sq z220 (oMv rfl rfl) <| sq z220 (oMax rfl rfl) <| sq z220 (oFA (r' := .mp 10 0 2) rfl fF279_2 rfl rfl) <| sq z220 (oSt tF2 rfl rfl rfl (tkI tk0) rfl rfl rfl) <| nl) ?_
    refine Unw.seq ?_
    refine Go.seq ?_
    refine Go.r1 c220 rfl rfl (st1 := mk [(0, .v false [.mp 0 0 0]), (4, .v false [.mp 4 0 0]), (6, .v false [.mp 6 0 0]), (7, iv press_7_e0_3), (10, .v false [.mp 10 0 0])] [(0, some ⟨0, 0, true, true, false, true, [⟨.imm, 0, 0, .sc (.int .i64 g_0.ready)⟩, ⟨.imm, 0, 0, .sc (.int .i64 g_0.free.e0)⟩, ⟨.imm, 0, 0, .sc (.int .i64 g_0.free.e1)⟩, ⟨.imm, 0, 0, .sc (.int .i64 g_0.free.e2)⟩, ⟨.imm, 0, 0, .sc (.int .i64 g_0.free.e3)⟩, ⟨.imm, 0, 0, .sc (.int .i64 g_0.end_)⟩]⟩), (4, some ⟨0, 0, false, true, false, true, [⟨.imm, 0, 0, .sc (.string b_1.Name)⟩, ⟨.imm, 0, 0, .sc (.int .i64 b_1.Spread)⟩, ⟨.imm, 0, 0, .sc (.int .i64 b_1.Open)⟩, ⟨.imm, 0, 0, .sc (.int .i64 b_1.Press)⟩]⟩), (6, some ⟨0, 0, false, true, false, true, [⟨.imm, 0, 0, .sc (.int .i64 0)⟩, ⟨.imm, 0, 0, .sc (.int .i64 0)⟩, ⟨.imm, 0, 0, .sc (.int .i64 0)⟩, ⟨.imm, 0, 0, .sc (.int .i64 0)⟩]⟩), (10, some ⟨0, 0, false, true, false, true, [⟨.imm, 0, 0, .sc (.int .i64 (max2 g_0.ready (w64 (x35 - b_1.Open))))⟩, ⟨.imm, 0, 0, .sc (.int .i64 press_7_e0_3)⟩, ⟨.imm, 0, 0, .sc (.int .i64 (max2 (w64 ((max2 g_0.ready (w64 (x35 - b_1.Open))) + b_1.Spread)) x35))⟩, ⟨.imm, 0, 0, .sc (.int .i64 0)⟩]⟩)]) (by kernel_rfl) (sq z220 (oFA (r' := .mp 10 0 2) rfl fF279_2 rfl rfl) <| sq z220 (oLd (cs := [.im 0 _]) rfl tF2 rfl rfl) <| sq z220 (oFA (r' := .mp 4 0 3) rfl fF209_3 rfl rfl) <| sq z220 (oLd (cs := [.im 0 _]) rfl tF2 rfl rfl) <| sq z220 (oBi rfl rfl rfl rfl) <| sq z220 (oFA (r' := .mp 10 0 3) rfl fF279_3 rfl rfl) <| sq z220 (oSt tF2 rfl rfl rfl (tkI tk0) rfl rfl rfl) <| nl) ?_
    refine Unw.seq ?_
    refine Go.seq ?_
    refine Go.r1 c220 rfl rfl (st1 := mk [(0, .v false [.mp 0 0 0]), (4, .v false [.mp 4 0 0]), (6, .v false [.mp 6 0 0]), (7, iv press_7_e0_3), (10, .v false [.mp 10 0 0])] [(0, some ⟨0, 0, true, true, false, true, [⟨.imm, 0, 0, .sc (.int .i64 g_0.ready)⟩, ⟨.imm, 0, 0, .sc (.int .i64 g_0.free.e0)⟩, ⟨.imm, 0, 0, .sc (.int .i64 g_0.free.e1)⟩, ⟨.imm, 0, 0, .sc (.int .i64 g_0.free.e2)⟩, ⟨.imm, 0, 0, .sc (.int .i64 g_0.free.e3)⟩, ⟨.imm, 0, 0, .sc (.int .i64 g_0.end_)⟩]⟩), (4, some ⟨0, 0, false, true, false, true, [⟨.imm, 0, 0, .sc (.string b_1.Name)⟩, ⟨.imm, 0, 0, .sc (.int .i64 b_1.Spread)⟩, ⟨.imm, 0, 0, .sc (.int .i64 b_1.Open)⟩, ⟨.imm, 0, 0, .sc (.int .i64 b_1.Press)⟩]⟩), (6, some ⟨0, 0, false, true, false, true, [⟨.imm, 0, 0, .sc (.int .i64 0)⟩, ⟨.imm, 0, 0, .sc (.int .i64 0)⟩, ⟨.imm, 0, 0, .sc (.int .i64 0)⟩, ⟨.imm, 0, 0, .sc (.int .i64 0)⟩]⟩), (10, some ⟨0, 0, false, true, false, true, [⟨.imm, 0, 0, .sc (.int .i64 (max2 g_0.ready (w64 (x35 - b_1.Open))))⟩, ⟨.imm, 0, 0, .sc (.int .i64 press_7_e0_3)⟩, ⟨.imm, 0, 0, .sc (.int .i64 (max2 (w64 ((max2 g_0.ready (w64 (x35 - b_1.Open))) + b_1.Spread)) x35))⟩, ⟨.imm, 0, 0, .sc (.int .i64 (w64 ((max2 (w64 ((max2 g_0.ready (w64 (x35 - b_1.Open))) + b_1.Spread)) x35) + b_1.Press)))⟩]⟩)]) (by kernel_rfl) (sq z220 (oMv rfl rfl) <| sq z220 (oFA (r' := .mp 10 0 0) rfl fF279_0 rfl rfl) <| sq z220 (oLd (cs := [.im 0 _]) rfl tF2 rfl rfl) <| sq z220 (oFA (r' := .mp 4 0 1) rfl fF209_1 rfl rfl) <| sq z220 (oLd (cs := [.im 0 _]) rfl tF2 rfl rfl) <| sq z220 (oBi rfl rfl rfl rfl) <| sq z220 (oNl rfl rfl rfl) <| sq z220 (oFA (r' := .mp 0 0 0) rfl fF218_0 rfl rfl) <| sq z220 (oSt tF2 rfl rfl rfl (tkI tk0) rfl rfl rfl) <| nl) ?_
    refine Unw.seq ?_
    refine Go.seq ?_
    obtain ⟨x75, hx75, h⟩ := bs h
    obtain ⟨⟨g_o0_1_m13, g_o0_2_m13, g_o0_3_m13, g_o0_4_m13⟩, hm10, h⟩ := bs h
    dsimp only at h
    refine Go.dr c220 rfl rfl rfl (st1 := mk [(0, .v false [.mp 0 0 0]), (6, .v false [.mp 6 0 0]), (7, iv press_7_e0_3), (10, .v false [.mp 10 0 0])] [(0, some ⟨0, 0, true, true, false, true, [⟨.imm, 0, 0, .sc (.int .i64 (w64 ((max2 g_0.ready (w64 (x35 - b_1.Open))) + b_1.Spread)))⟩, ⟨.imm, 0, 0, .sc (.int .i64 g_0.free.e0)⟩, ⟨.imm, 0, 0, .sc (.int .i64 g_0.free.e1)⟩, ⟨.imm, 0, 0, .sc (.int .i64 g_0.free.e2)⟩, ⟨.imm, 0, 0, .sc (.int .i64 g_0.free.e3)⟩, ⟨.imm, 0, 0, .sc (.int .i64 g_0.end_)⟩]⟩), (6, some ⟨0, 0, false, true, false, true, [⟨.imm, 0, 0, .sc (.int .i64 0)⟩, ⟨.imm, 0, 0, .sc (.int .i64 0)⟩, ⟨.imm, 0, 0, .sc (.int .i64 0)⟩, ⟨.imm, 0, 0, .sc (.int .i64 0)⟩]⟩), (10, some ⟨0, 0, false, true, false, true, [⟨.imm, 0, 0, .sc (.int .i64 (max2 g_0.ready (w64 (x35 - b_1.Open))))⟩, ⟨.imm, 0, 0, .sc (.int .i64 press_7_e0_3)⟩, ⟨.imm, 0, 0, .sc (.int .i64 (max2 (w64 ((max2 g_0.ready (w64 (x35 - b_1.Open))) + b_1.Spread)) x35))⟩, ⟨.imm, 0, 0, .sc (.int .i64 (w64 ((max2 (w64 ((max2 g_0.ready (w64 (x35 - b_1.Open))) + b_1.Spread)) x35) + b_1.Press)))⟩]⟩)]) (by kernel_rfl) (mk [(0, .v false [.mp 0 0 0]), (6, .v false [.mp 6 0 0]), (10, .v false [.mp 10 0 0])] [(0, some ⟨0, 0, true, true, false, true, [⟨.imm, 0, 0, .sc (.int .i64 (w64 ((max2 g_0.ready (w64 (x35 - b_1.Open))) + b_1.Spread)))⟩, ⟨.imm, 0, 0, .sc (.int .i64 g_o0_1_m13)⟩, ⟨.imm, 0, 0, .sc (.int .i64 g_o0_2_m13)⟩, ⟨.imm, 0, 0, .sc (.int .i64 g_o0_3_m13)⟩, ⟨.imm, 0, 0, .sc (.int .i64 g_o0_4_m13)⟩, ⟨.imm, 0, 0, .sc (.int .i64 g_0.end_)⟩]⟩), (6, some ⟨0, 0, false, true, false, true, [⟨.imm, 0, 0, .sc (.int .i64 0)⟩, ⟨.imm, 0, 0, .sc (.int .i64 0)⟩, ⟨.imm, 0, 0, .sc (.int .i64 0)⟩, ⟨.imm, 0, 0, .sc (.int .i64 0)⟩]⟩), (10, some ⟨0, 0, false, true, false, true, [⟨.imm, 0, 0, .sc (.int .i64 (max2 g_0.ready (w64 (x35 - b_1.Open))))⟩, ⟨.imm, 0, 0, .sc (.int .i64 press_7_e0_3)⟩, ⟨.imm, 0, 0, .sc (.int .i64 (max2 (w64 ((max2 g_0.ready (w64 (x35 - b_1.Open))) + b_1.Spread)) x35))⟩, ⟨.imm, 0, 0, .sc (.int .i64 (w64 ((max2 (w64 ((max2 g_0.ready (w64 (x35 - b_1.Open))) + b_1.Spread)) x35) + b_1.Press)))⟩]⟩)]) ?_ ?_
    · by_cases hc7 : press_7_e0_3 = 0
      · rw [if_pos hc7] at hm10
        cases hm10
        exact sT rfl (dN z220 rfl (oMv rfl rfl)) <| sT rfl (dN z220 rfl (oMv rfl rfl)) <| sT rfl (dN z220 rfl (oFA (r' := .mp 10 0 3) rfl fF279_3 rfl rfl)) <| sT rfl (dN z220 rfl (oLd (cs := [.im 0 _]) rfl tF2 rfl rfl)) <| sT rfl (dN z220 rfl (oNl rfl rfl rfl)) <| sT rfl (dN z220 rfl (oFA (r' := .mp 0 0 1) rfl fF218_1 rfl rfl)) <| sT rfl (dN z220 rfl (oIAA (r' := .mp 0 0 (1 + (press_7_e0_3).toNat * 1)) rfl uF216 zF2 rfl (ix0 hx75) (ixB hx75) rfl rfl)) <| sS (dN z220 rfl (oStA (iEq.1 (iEq.2 hc7)) tF2 rfl rfl rfl (tkI tk0) rfl rfl rfl)) trivial (sD (by kernel_rfl))
      · rw [if_neg hc7] at hm10
        by_cases hc8 : press_7_e0_3 = 1
        · rw [if_pos hc8] at hm10
          cases hm10
          exact sT rfl (dN z220 rfl (oMv rfl rfl)) <| sT rfl (dN z220 rfl (oMv rfl rfl)) <| sT rfl (dN z220 rfl (oFA (r' := .mp 10 0 3) rfl fF279_3 rfl rfl)) <| sT rfl (dN z220 rfl (oLd (cs := [.im 0 _]) rfl tF2 rfl rfl)) <| sT rfl (dN z220 rfl (oNl rfl rfl rfl)) <| sT rfl (dN z220 rfl (oFA (r' := .mp 0 0 1) rfl fF218_1 rfl rfl)) <| sT rfl (dN z220 rfl (oIAA (r' := .mp 0 0 (1 + (press_7_e0_3).toNat * 1)) rfl uF216 zF2 rfl (ix0 hx75) (ixB hx75) rfl rfl)) <| sS (dN z220 rfl (oStA (iEq.1 (iEq.2 hc8)) tF2 rfl rfl rfl (tkI tk0) rfl rfl rfl)) trivial (sD (by kernel_rfl))
        · rw [if_neg hc8] at hm10
          by_cases hc9 : press_7_e0_3 = 2
          · rw [if_pos hc9] at hm10
            cases hm10
            exact sT rfl (dN z220 rfl (oMv rfl rfl)) <| sT rfl (dN z220 rfl (oMv rfl rfl)) <| sT rfl (dN z220 rfl (oFA (r' := .mp 10 0 3) rfl fF279_3 rfl rfl)) <| sT rfl (dN z220 rfl (oLd (cs := [.im 0 _]) rfl tF2 rfl rfl)) <| sT rfl (dN z220 rfl (oNl rfl rfl rfl)) <| sT rfl (dN z220 rfl (oFA (r' := .mp 0 0 1) rfl fF218_1 rfl rfl)) <| sT rfl (dN z220 rfl (oIAA (r' := .mp 0 0 (1 + (press_7_e0_3).toNat * 1)) rfl uF216 zF2 rfl (ix0 hx75) (ixB hx75) rfl rfl)) <| sS (dN z220 rfl (oStA (iEq.1 (iEq.2 hc9)) tF2 rfl rfl rfl (tkI tk0) rfl rfl rfl)) trivial (sD (by kernel_rfl))
          · rw [if_neg hc9] at hm10
            cases hm10
            exact sT rfl (dN z220 rfl (oMv rfl rfl)) <| sT rfl (dN z220 rfl (oMv rfl rfl)) <| sT rfl (dN z220 rfl (oFA (r' := .mp 10 0 3) rfl fF279_3 rfl rfl)) <| sT rfl (dN z220 rfl (oLd (cs := [.im 0 _]) rfl tF2 rfl rfl)) <| sT rfl (dN z220 rfl (oNl rfl rfl rfl)) <| sT rfl (dN z220 rfl (oFA (r' := .mp 0 0 1) rfl fF218_1 rfl rfl)) <| sT rfl (dN z220 rfl (oIAA (r' := .mp 0 0 (1 + (press_7_e0_3).toNat * 1)) rfl uF216 zF2 rfl (ix0 hx75) (ixB hx75) rfl rfl)) <| sS (dN z220 rfl (oStA (ixL4 hx75 (byF iEq hc7) (byF iEq hc8) (byF iEq hc9)) tF2 rfl rfl rfl (tkI tk0) rfl rfl rfl)) trivial (sD (by kernel_rfl))
    · refine Unw.seq ?_
      refine Go.seq ?_
      refine Go.dr c220 rfl rfl rfl rfl (mk [(6, .v false [.mp 6 0 0]), (10, .v false [.mp 10 0 0])] [(0, some ⟨0, 0, true, true, false, true, [⟨.imm, 0, 0, .sc (.int .i64 (w64 ((max2 g_0.ready (w64 (x35 - b_1.Open))) + b_1.Spread)))⟩, ⟨.imm, 0, 0, .sc (.int .i64 g_o0_1_m13)⟩, ⟨.imm, 0, 0, .sc (.int .i64 g_o0_2_m13)⟩, ⟨.imm, 0, 0, .sc (.int .i64 g_o0_3_m13)⟩, ⟨.imm, 0, 0, .sc (.int .i64 g_o0_4_m13)⟩, ⟨.imm, 0, 0, .sc (.int .i64 (max2 g_0.end_ (w64 ((max2 (w64 ((max2 g_0.ready (w64 (x35 - b_1.Open))) + b_1.Spread)) x35) + b_1.Press))))⟩]⟩), (6, some ⟨0, 0, false, true, false, true, [⟨.imm, 0, 0, .sc (.int .i64 0)⟩, ⟨.imm, 0, 0, .sc (.int .i64 0)⟩, ⟨.imm, 0, 0, .sc (.int .i64 0)⟩, ⟨.imm, 0, 0, .sc (.int .i64 0)⟩]⟩), (10, some ⟨0, 0, false, true, false, true, [⟨.imm, 0, 0, .sc (.int .i64 (max2 g_0.ready (w64 (x35 - b_1.Open))))⟩, ⟨.imm, 0, 0, .sc (.int .i64 press_7_e0_3)⟩, ⟨.imm, 0, 0, .sc (.int .i64 (max2 (w64 ((max2 g_0.ready (w64 (x35 - b_1.Open))) + b_1.Spread)) x35))⟩, ⟨.imm, 0, 0, .sc (.int .i64 (w64 ((max2 (w64 ((max2 g_0.ready (w64 (x35 - b_1.Open))) + b_1.Spread)) x35) + b_1.Press)))⟩]⟩)]) (sT rfl (dN z220 rfl (oMv rfl rfl)) <| sT rfl (dN z220 rfl (oMv rfl rfl)) <| sT rfl (dN z220 rfl (oNl rfl rfl rfl)) <| sT rfl (dN z220 rfl (oFA (r' := .mp 0 0 5) rfl fF218_2 rfl rfl)) <| sT rfl (dN z220 rfl (oLd (cs := [.im 0 _]) rfl tF2 rfl rfl)) <| sT rfl (dN z220 rfl (oFA (r' := .mp 10 0 3) rfl fF279_3 rfl rfl)) <| sT rfl (dN z220 rfl (oLd (cs := [.im 0 _]) rfl tF2 rfl rfl)) <| sS (dN z220 rfl (oMax rfl rfl)) trivial (sT rfl (dN z220 rfl (oNl rfl rfl rfl)) <| sT rfl (dN z220 rfl (oFA (r' := .mp 0 0 5) rfl fF218_2 rfl rfl)) <| sS (dN z220 rfl (oSt tF2 rfl rfl rfl (tkI tk0) rfl rfl rfl)) trivial (sD (by kernel_rfl)))) ?_
      refine Unw.seq ?_
      refine Go.seq ?_
      refine Go.r0 c220 rfl rfl (sq z220 (oLd (cs := [.im 0 _, .im 0 _, .im 0 _, .im 0 _]) rfl tF279 rfl rfl) <| sq z220 (oSt tF279 rfl rfl rfl (tkI (tkI (tkI (tkI tk0)))) rfl rfl rfl) <| nl) ?_
      refine Unw.seq ?_
      refine Go.ret (Unw.ret ?_)
      cases h
      exact Fin_ret (fin_of rfl rF220 rfl (by kernel_rfl))
end
end Go.Proofs.Ytigjhjlkdamncaa
