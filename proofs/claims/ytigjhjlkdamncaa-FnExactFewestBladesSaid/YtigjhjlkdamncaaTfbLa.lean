/- The machine answers, at each function of the program that is reached, what its plain function answers. Conditions: none. -/
import Derived.Test.YtigjhjlkdamncaaProg
import Derived.KernelRfl
import Derived.Test.YtigjhjlkdamncaaSimRf
import Derived.Test.YtigjhjlkdamncaaTfbT
namespace Go.Proofs.Ytigjhjlkdamncaa
open Go Go.Sim Go.Pw Go.Proofs
set_option linter.unusedVariables false
set_option linter.unusedSimpArgs false
set_option maxRecDepth 100000
set_option maxHeartbeats 4000000
noncomputable section

def e_S_Blade (x : S_Blade) : AV := .agg [.sc (.string x.Name), .sc (.int .i64 x.Life), .sc (.int .i64 x.Price), .sc (.int .i64 x.Speed)]
def e_S_Cutting (x : S_Cutting) : AV := .agg [.sc (.string x.Name), .sc (.int .i64 x.Length), .sc (.int .i64 x.Hardness)]
def e_S_l16Search (x : S_l16Search) : AV := .agg [.row 1 (List.map eI x.wears), .sc (.int .i64 x.life), .sc (.int .i64 x.most), .row 1 (List.map eI x.blades), .row 1 (List.map eI x.left), .sc (.int .i64 x.nodes), .sc (.int .i64 x.budget), .sc (.bool x.full)]
def e_S_bladeSearch (x : S_bladeSearch) : AV := .agg [.row 1 (List.map eI x.wears), .sc (.int .i64 x.life), .sc (.int .i64 x.left)]

def fc5 : FCfg := { par := [.cst false, .cst false, .cst false], inn := [(17, some ([1, 2, 3, 8, 9, 10, 12, 13, 14, 15], [3, 8, 12])), (21, some ([1, 2, 3, 8, 9, 10, 12, 16], [3, 8, 12]))], out := [(11, some ([1, 2, 3, 8, 9, 10, 11, 12, 13, 14, 65], [3, 8, 11, 12])), (17, some ([1, 2, 3, 8, 9, 10, 12, 91], [3, 8, 12])), (28, some ([12, 16, 126], [12]))], loopK := [], frz := [], sch := [] }
def fc27 : FCfg := { par := [.cst false, .cst false], inn := [(8, some ([], []))], out := [(6, some ([0, 1, 5, 25], []))], loopK := [(4, ([0, 1, 5], []))], frz := [], sch := [(6, .first 0 [2, 3, 8] [1, 4, 5, 6, 7] (.first 1 [2, 3, 8] [4, 5, 6, 7] (.first 2 [3, 8] [4, 5, 6, 7] (.first 3 [8] [4, 5, 6, 7] (.first 4 [6, 7, 8] [5] (.first 5 [6, 7, 8] [] (.first 6 [7, 8] [] (.first 7 [8] [] (.first 8 [] [] (.done))))))))))] }
def fc30 : FCfg := { par := [.row, .cst false], inn := [(5, some ([0, 1, 5], [0])), (6, some ([1], [0]))], out := [], loopK := [(2, ([0, 1, 5], [0]))], frz := [], sch := [] }
def fc31 : FCfg := { par := [.cst false, .cst false], inn := [(7, some ([1], []))], out := [], loopK := [(2, ([0, 1, 5], []))], frz := [], sch := [] }
def fc32 : FCfg := { par := [.cst false, .cst false], inn := [], out := [], loopK := [], frz := [], sch := [] }
def fc33 : FCfg := { par := [.cst false, .cst false], inn := [(10, some ([1], []))], out := [], loopK := [(5, ([0, 1, 5], []))], frz := [], sch := [] }
def fc34 : FCfg := { par := [.cst false, .cst false, .cst false], inn := [(4, some ([1, 2, 3, 9], [3])), (11, some ([1, 10, 11], [30])), (12, some ([10, 11], [30])), (13, some ([1, 10, 11], [30])), (14, some ([], []))], out := [(2, some ([1, 2, 3, 9, 20], [3])), (6, some ([1, 10], [30]))], loopK := [(8, ([1, 10, 11], [30]))], frz := [], sch := [(6, .first 0 [1, 5, 6, 7] [2, 3, 4] (.first 2 [3, 5, 6, 7] [1, 4] (.first 3 [5, 6, 7] [1, 4] (.first 4 [5, 6, 7] [1] (.fork 1 (.fork 5 (.fork 6 (.fork 7 (.done) (.stop)) (.stop)) (.stop)) (.stop))))))] }
def fc35 : FCfg := { par := [.cst false], inn := [(3, some ([1, 2, 3], [1, 2, 3])), (4, some ([1, 2, 3], [1, 2, 3])), (5, some ([1, 2, 3], [1, 2, 3])), (6, some ([2, 3], [2, 3]))], out := [], loopK := [], frz := [], sch := [] }
def fc36 : FCfg := { par := [.cst false], inn := [(4, some ([0, 3, 4], [3])), (6, some ([3], [3]))], out := [], loopK := [(3, ([0, 3, 4], [3]))], frz := [], sch := [] }
def fc37 : FCfg := { par := [.cst false, .cst false, .cst false], inn := [(4, some ([2, 3, 9, 10], [3])), (10, some ([11, 12, 13, 14], [13, 36]))], out := [(2, some ([2, 3, 9, 10, 27], [3]))], loopK := [(9, ([11, 12], [36]))], frz := [], sch := [] }
def fc38 : FCfg := { par := [.cst false, .cst false], inn := [(8, some ([], []))], out := [(6, some ([0, 1, 5, 26], []))], loopK := [(4, ([0, 1, 5], []))], frz := [], sch := [(6, .first 0 [2, 3, 8, 9] [1, 4, 5, 6, 7] (.first 1 [2, 3, 8, 9] [4, 5, 6, 7] (.first 2 [3, 8, 9] [4, 5, 6, 7] (.first 3 [8, 9] [4, 5, 6, 7] (.first 4 [6, 7, 8, 9] [5] (.first 5 [6, 7, 8, 9] [] (.first 6 [7, 8, 9] [] (.first 7 [8, 9] [] (.fork 8 (.first 9 [] [] (.done)) (.stop))))))))))] }
def fc39 : FCfg := { par := [.row, .cst false], inn := [(5, some ([0, 1, 5], [0])), (7, some ([0, 1, 5], [0])), (9, some ([0, 1, 5], [0])), (10, some ([1], [0]))], out := [], loopK := [(2, ([0, 1, 5], [0]))], frz := [], sch := [] }
def fc92 : FCfg := { par := [.cst false, .cst false, .cst false], inn := [], out := [(1, some ([6], []))], loopK := [], frz := [], sch := [] }
def fc102 : FCfg := { par := [.cst false, .cst false, .cst false], inn := [], out := [(1, some ([6], []))], loopK := [], frz := [], sch := [] }
def fc105 : FCfg := { par := [.cst false], inn := [], out := [], loopK := [], frz := [], sch := [] }
def fc108 : FCfg := { par := [.cst false], inn := [(7, some ([3], []))], out := [], loopK := [(4, ([0, 3], []))], frz := [], sch := [] }
def fc109 : FCfg := { par := [.cst false, .cst false], inn := [], out := [], loopK := [], frz := [], sch := [] }
def fc110 : FCfg := { par := [.cst false, .cst false], inn := [(8, some ([], []))], out := [(1, some ([0, 1, 13], [])), (6, some ([0, 1, 5, 28], []))], loopK := [(4, ([0, 1, 5], []))], frz := [], sch := [(6, .first 0 [2, 3, 8] [1, 4, 5, 6, 7] (.first 1 [2, 3, 8] [4, 5, 6, 7] (.first 2 [3, 8] [4, 5, 6, 7] (.first 4 [5, 6, 7, 8] [3] (.first 5 [6, 7, 8] [3] (.first 6 [7, 8] [3] (.first 7 [8] [3] (.fork 3 (.first 8 [] [] (.done)) (.stop)))))))))] }
def fc111 : FCfg := { par := [.cst false], inn := [(6, some ([3], [3]))], out := [], loopK := [(3, ([0, 3, 4], [3]))], frz := [19], sch := [] }
def fc112 : FCfg := { par := [.ptr [.imm, .imm, .imm, .sh, .sh, .imm, .imm, .imm]], inn := [(6, some ([0, 3, 4], [0])), (11, some ([0, 3, 4, 5], [0])), (14, some ([0, 3, 4, 5], [0])), (16, some ([0, 3, 4, 5], [0])), (18, some ([0, 3, 4, 5], [0])), (19, some ([], [0])), (20, some ([0, 3, 4, 5], [0])), (21, some ([0, 3, 4, 5], [0])), (24, some ([], [0]))], out := [(5, some ([0, 3, 4, 32], [0])), (8, some ([0, 3, 4, 5, 60], [0])), (9, some ([0, 3, 4, 5, 69], [0])), (15, some ([0, 3, 4, 5], [0])), (16, some ([0, 3, 4, 5], [0])), (21, some ([0, 3, 4, 5], [0]))], loopK := [(5, ([0, 3, 4], [0]))], frz := [], sch := [(8, .first 0 [1, 2, 3, 4, 5, 6, 7, 8, 9, 10, 11, 12, 13, 14, 15, 16, 17, 18] [] (.first 1 [2, 3, 4, 5, 6, 7, 8, 9, 10, 11, 12, 13, 14, 15, 16, 17, 18] [] (.first 2 [3, 4, 5, 6, 7, 8, 9, 10, 11, 12, 13, 14, 15, 16, 17, 18] [] (.first 3 [4, 5, 6, 8, 9, 17, 18] [7, 10, 11, 12, 13, 14, 15, 16] (.first 4 [5, 6, 8, 9, 17, 18] [7, 10, 11, 12, 13, 14, 15, 16] (.first 5 [6, 8, 9, 17, 18] [7, 10, 11, 12, 13, 14, 15, 16] (.first 6 [8, 9, 17, 18] [7, 10, 11, 12, 13, 14, 15, 16] (.first 7 [8, 9, 17, 18] [10, 11, 12, 13, 14, 15, 16] (.first 8 [9, 17, 18] [10, 11, 12, 13, 14, 15, 16] (.first 9 [17, 18] [10, 11, 12, 13, 14, 15, 16] (.first 10 [11, 12, 13, 15, 16, 17, 18] [14] (.first 11 [12, 13, 15, 16, 17, 18] [14] (.first 12 [13, 15, 16, 17, 18] [14] (.first 13 [15, 16, 17, 18] [14] (.first 14 [15, 16, 17, 18] [] (.first 15 [16, 17, 18] [] (.first 16 [17, 18] [] (.first 17 [18] [] (.first 18 [] [] (.done)))))))))))))))))))), (9, .first 0 [1, 2, 3, 8] [4, 5, 6, 7] (.first 1 [2, 3, 8] [4, 5, 6, 7] (.first 2 [3, 8] [4, 5, 6, 7] (.first 3 [8] [4, 5, 6, 7] (.first 4 [5, 6, 7, 8] [] (.first 5 [6, 7, 8] [] (.first 6 [7, 8] [] (.first 7 [8] [] (.first 8 [] [] (.done)))))))))), (15, .first 0 [11, 12, 13] [1, 2, 3, 4, 5, 6, 7, 8, 9, 10] (.first 1 [2, 3, 4, 10, 11, 12, 13] [5, 6, 7, 8, 9] (.first 5 [6, 7, 8, 9, 10, 11, 12, 13] [2, 3, 4] (.first 6 [7, 8, 9, 10, 11, 12, 13] [2, 3, 4] (.first 7 [8, 9, 10, 11, 12, 13] [2, 3, 4] (.first 8 [9, 10, 11, 12, 13] [2, 3, 4] (.first 2 [3, 4, 10, 11, 12, 13] [9] (.first 3 [4, 10, 11, 12, 13] [9] (.first 4 [10, 11, 12, 13] [9] (.fork 9 (.fork 10 (.first 11 [12, 13] [] (.first 12 [13] [] (.fork 13 (.done) (.stop)))) (.stop)) (.stop))))))))))), (16, .first 0 [1, 2, 3, 5, 6, 14, 15, 16] [4, 7, 8, 9, 10, 11, 12, 13] (.first 1 [2, 3, 5, 6, 14, 15, 16] [4, 7, 8, 9, 10, 11, 12, 13] (.first 2 [3, 5, 6, 14, 15, 16] [4, 7, 8, 9, 10, 11, 12, 13] (.first 3 [5, 6, 14, 15, 16] [4, 7, 8, 9, 10, 11, 12, 13] (.first 4 [5, 6, 14, 15, 16] [7, 8, 9, 10, 11, 12, 13] (.first 5 [6, 14, 15, 16] [7, 8, 9, 10, 11, 12, 13] (.first 6 [14, 15, 16] [7, 8, 9, 10, 11, 12, 13] (.first 7 [8, 9, 10, 12, 13, 14, 15, 16] [11] (.first 8 [9, 10, 12, 13, 14, 15, 16] [11] (.first 9 [10, 12, 13, 14, 15, 16] [11] (.first 10 [12, 13, 14, 15, 16] [11] (.first 11 [12, 13, 14, 15, 16] [] (.first 12 [13, 14, 15, 16] [] (.first 13 [14, 15, 16] [] (.first 14 [15, 16] [] (.first 15 [16] [] (.fork 16 (.done) (.stop)))))))))))))))))), (21, .first 0 [1, 2, 3, 5, 6, 14, 15, 16] [4, 7, 8, 9, 10, 11, 12, 13] (.first 1 [2, 3, 5, 6, 14, 15, 16] [4, 7, 8, 9, 10, 11, 12, 13] (.first 2 [3, 5, 6, 14, 15, 16] [4, 7, 8, 9, 10, 11, 12, 13] (.first 3 [5, 6, 14, 15, 16] [4, 7, 8, 9, 10, 11, 12, 13] (.first 4 [5, 6, 14, 15, 16] [7, 8, 9, 10, 11, 12, 13] (.first 5 [6, 14, 15, 16] [7, 8, 9, 10, 11, 12, 13] (.first 6 [14, 15, 16] [7, 8, 9, 10, 11, 12, 13] (.first 7 [8, 9, 10, 12, 13, 14, 15, 16] [11] (.first 8 [9, 10, 12, 13, 14, 15, 16] [11] (.first 9 [10, 12, 13, 14, 15, 16] [11] (.first 10 [12, 13, 14, 15, 16] [11] (.first 11 [12, 13, 14, 15, 16] [] (.first 12 [13, 14, 15, 16] [] (.first 13 [14, 15, 16] [] (.first 14 [15, 16] [] (.first 15 [16] [] (.fork 16 (.done) (.stop))))))))))))))))))] }
def fc113 : FCfg := { par := [.cst false], inn := [(3, some ([1, 2, 3], [1, 2, 3])), (4, some ([1, 2, 3], [1, 2, 3])), (5, some ([2, 3], [2, 3]))], out := [], loopK := [], frz := [], sch := [] }
def fc114 : FCfg := { par := [.cst false, .cst false], inn := [(7, some ([2, 6, 8, 18, 19, 20], [2, 6, 8])), (11, some ([6], [6]))], out := [(1, some ([1, 2, 16], [2])), (7, some ([2, 6, 8, 18, 19, 20, 28], [2, 6, 8]))], loopK := [(5, ([2, 6, 18, 19, 20], [2, 6]))], frz := [4], sch := [(7, .first 0 [1, 4] [2, 3] (.first 2 [3, 4] [1] (.first 3 [4] [1] (.fork 1 (.first 4 [] [] (.done)) (.stop)))))] }
def fc115 : FCfg := { par := [.ptr [.imm, .imm, .imm], .mv, .cst false, .cst false], inn := [(6, some ([0, 1, 2, 3, 10, 11], [0, 1])), (10, some ([0, 1, 2, 3, 10, 11, 12], [0, 1, 12])), (14, some ([0, 1, 2, 3, 10, 11, 12], [0, 1, 12])), (15, some ([0, 1, 2, 3, 10, 11, 12], [0, 1, 12])), (16, some ([0, 1, 2, 3, 10, 11, 13, 14], [0, 1, 13])), (18, some ([], [0]))], out := [(5, some ([0, 1, 2, 3, 10, 11, 40], [0, 1])), (10, some ([0, 1, 2, 3, 10, 11, 12, 62], [0, 1, 12]))], loopK := [(5, ([0, 1, 2, 3, 10, 11], [0, 1]))], frz := [], sch := [(10, .first 0 [2, 3, 5, 10] [1, 4, 6, 7, 8, 9] (.first 1 [2, 3, 5, 10] [4, 6, 7, 8, 9] (.first 2 [3, 5, 10] [4, 6, 7, 8, 9] (.first 3 [5, 10] [4, 6, 7, 8, 9] (.first 4 [5, 10] [6, 7, 8, 9] (.first 5 [10] [6, 7, 8, 9] (.first 6 [7, 8, 9, 10] [] (.first 7 [8, 9, 10] [] (.first 8 [9, 10] [] (.first 9 [10] [] (.first 10 [] [] (.done))))))))))))] }
def fc116 : FCfg := { par := [.cst false, .cst false], inn := [], out := [], loopK := [], frz := [], sch := [] }
def fc172 : FCfg := { par := [.cst false, .cst false], inn := [], out := [], loopK := [], frz := [], sch := [] }
def fc194 : FCfg := { par := [.cst false], inn := [], out := [(1, some ([2], []))], loopK := [], frz := [], sch := [] }
def fc195 : FCfg := { par := [.cst false], inn := [(6, some ([0], []))], out := [(4, some ([0, 3, 32], []))], loopK := [(2, ([0, 3], []))], frz := [], sch := [(4, .first 0 [2, 3, 4, 5, 6, 7, 8, 9, 10, 11, 12, 13, 14, 15, 16, 17, 18, 19, 20, 21, 22] [1] (.first 1 [2, 3, 4, 5, 6, 7, 8, 9, 10, 11, 12, 13, 14, 15, 16, 17, 18, 19, 20, 21, 22] [] (.first 2 [3, 4, 5, 6, 7, 8, 9, 10, 11, 12, 13, 14, 15, 16, 17, 18, 19, 20, 21, 22] [] (.fork 3 (.first 4 [5, 6, 7, 8, 9, 10, 11, 12, 13, 14, 15, 16, 17, 18, 19, 20, 21, 22] [] (.first 5 [6, 7, 8, 9, 10, 11, 12, 13, 14, 15, 16, 17, 18, 19, 20, 21, 22] [] (.first 6 [7, 8, 9, 10, 11, 12, 13, 14, 15, 16, 17, 18, 19, 20, 21, 22] [] (.first 7 [8, 9, 10, 11, 12, 13, 14, 15, 16, 17, 18, 19, 20, 21, 22] [] (.first 8 [9, 10, 11, 12, 13, 14, 15, 16, 17, 18, 19, 20, 21, 22] [] (.first 9 [12, 13, 14, 20, 21, 22] [10, 11, 15, 16, 17, 18, 19] (.first 10 [11, 12, 13, 14, 20, 21, 22] [15, 16, 17, 18, 19] (.first 11 [12, 13, 14, 20, 21, 22] [15, 16, 17, 18, 19] (.first 12 [13, 14, 20, 21, 22] [15, 16, 17, 18, 19] (.first 13 [14, 20, 21, 22] [15, 16, 17, 18, 19] (.first 14 [20, 21, 22] [15, 16, 17, 18, 19] (.first 15 [17, 18, 19, 20, 21, 22] [16] (.first 16 [17, 18, 19, 20, 21, 22] [] (.first 17 [18, 19, 20, 21, 22] [] (.first 18 [19, 20, 21, 22] [] (.first 19 [20, 21, 22] [] (.first 20 [21, 22] [] (.first 21 [22] [] (.first 22 [] [] (.done)))))))))))))))))))) (.stop)))))] }
def fc196 : FCfg := { par := [.cst false], inn := [], out := [(1, some ([2], []))], loopK := [], frz := [], sch := [(1, .first 0 [1, 2, 3, 8, 9, 10, 11] [4, 5, 6, 7] (.first 1 [2, 3, 8, 9, 10, 11] [4, 5, 6, 7] (.first 2 [3, 8, 9, 10, 11] [4, 5, 6, 7] (.first 3 [8, 9, 10, 11] [4, 5, 6, 7] (.first 4 [5, 6, 7, 8, 9, 10, 11] [] (.first 5 [6, 7, 8, 9, 10, 11] [] (.first 6 [7, 8, 9, 10, 11] [] (.first 7 [8, 9, 10, 11] [] (.first 8 [9, 10, 11] [] (.first 9 [10, 11] [] (.first 10 [11] [] (.fork 11 (.done) (.stop)))))))))))))] }
def fc197 : FCfg := { par := [.cst false], inn := [], out := [(1, some ([2], []))], loopK := [], frz := [], sch := [] }
def fc198 : FCfg := { par := [.cst false], inn := [(4, some ([0, 3, 4, 5, 6, 7], [4])), (7, some ([0], []))], out := [(4, some ([0, 5, 6, 7, 29], []))], loopK := [(2, ([0, 5, 6, 7], []))], frz := [], sch := [(4, .first 0 [1, 2, 3, 4, 5, 6, 7, 8, 9, 10, 11, 12, 13, 14, 15, 16, 17] [] (.fork 1 (.first 2 [3, 4, 5, 6, 7, 8, 9, 10, 11, 12, 13, 14, 15, 16, 17] [] (.first 3 [4, 5, 6, 7, 8, 9, 10, 11, 12, 13, 14, 15, 16, 17] [] (.first 4 [5, 6, 7, 8, 9, 10, 11, 12, 13, 14, 15, 16, 17] [] (.first 5 [6, 7, 8, 9, 10, 11, 12, 13, 14, 15, 16, 17] [] (.first 6 [7, 8, 9, 10, 11, 12, 13, 14, 15, 16, 17] [] (.first 7 [10, 11, 12, 15, 16, 17] [8, 9, 13, 14] (.first 8 [9, 10, 11, 12, 15, 16, 17] [13, 14] (.first 9 [10, 11, 12, 15, 16, 17] [13, 14] (.first 10 [11, 12, 15, 16, 17] [13, 14] (.first 11 [12, 15, 16, 17] [13, 14] (.first 12 [15, 16, 17] [13, 14] (.first 13 [14, 15, 16, 17] [] (.first 14 [15, 16, 17] [] (.first 15 [16, 17] [] (.first 16 [17] [] (.first 17 [] [] (.done))))))))))))))))) (.stop)))] }
def fc199 : FCfg := { par := [.cst false], inn := [], out := [], loopK := [], frz := [], sch := [] }
def fc242 : FCfg := { par := [.cst false], inn := [], out := [(1, some ([2], []))], loopK := [], frz := [], sch := [] }
def fc250 : FCfg := { par := [.cst false], inn := [(8, some ([], []))], out := [(1, some ([0, 21], [])), (6, some ([0, 3, 49], []))], loopK := [(4, ([0, 3], []))], frz := [], sch := [] }
def fc252 : FCfg := { par := [.cst false], inn := [(8, some ([], []))], out := [(1, some ([0, 16], [])), (6, some ([0, 3, 34], []))], loopK := [(4, ([0, 3], []))], frz := [], sch := [] }
def fc253 : FCfg := { par := [.cst false], inn := [], out := [(1, some ([2], []))], loopK := [], frz := [], sch := [] }
def fc276 : FCfg := { par := [.cst false], inn := [], out := [(1, some ([2], []))], loopK := [], frz := [], sch := [] }
def fc277 : FCfg := { par := [.cst false], inn := [], out := [(1, some ([2], []))], loopK := [], frz := [], sch := [] }
def fcs : List (Nat × FCfg) := [(5, fc5), (27, fc27), (30, fc30), (31, fc31), (32, fc32), (33, fc33), (34, fc34), (35, fc35), (36, fc36), (37, fc37), (38, fc38), (39, fc39), (92, fc92), (102, fc102), (105, fc105), (108, fc108), (109, fc109), (110, fc110), (111, fc111), (112, fc112), (113, fc113), (114, fc114), (115, fc115), (116, fc116), (172, fc172), (194, fc194), (195, fc195), (196, fc196), (197, fc197), (198, fc198), (199, fc199), (242, fc242), (250, fc250), (252, fc252), (253, fc253), (276, fc276), (277, fc277)]
def ons : List (Nat × Bool) := [(5, true), (27, true), (30, true), (31, true), (32, true), (33, true), (34, true), (35, true), (36, true), (37, true), (38, true), (39, true), (92, true), (102, true), (105, true), (108, true), (109, true), (110, true), (111, true), (112, true), (113, true), (114, true), (115, true), (116, true), (172, true), (194, true), (195, true), (196, true), (197, true), (198, true), (199, true), (242, true), (250, true), (252, true), (253, true), (276, true), (277, true)]
def cfg : Cfg := mkCfg ons fcs [(187, some (extCloneN 1 8))]
theorem c5 : cfg.fc 5 = fc5 := rfl
theorem z5 : (cfg.fc 5).frz = [] := rfl
theorem c27 : cfg.fc 27 = fc27 := rfl
theorem z27 : (cfg.fc 27).frz = [] := rfl
theorem c30 : cfg.fc 30 = fc30 := rfl
theorem z30 : (cfg.fc 30).frz = [] := rfl
theorem c31 : cfg.fc 31 = fc31 := rfl
theorem z31 : (cfg.fc 31).frz = [] := rfl
theorem c32 : cfg.fc 32 = fc32 := rfl
theorem z32 : (cfg.fc 32).frz = [] := rfl
theorem c33 : cfg.fc 33 = fc33 := rfl
theorem z33 : (cfg.fc 33).frz = [] := rfl
theorem c34 : cfg.fc 34 = fc34 := rfl
theorem z34 : (cfg.fc 34).frz = [] := rfl
theorem c35 : cfg.fc 35 = fc35 := rfl
theorem z35 : (cfg.fc 35).frz = [] := rfl
theorem c36 : cfg.fc 36 = fc36 := rfl
theorem z36 : (cfg.fc 36).frz = [] := rfl
theorem c37 : cfg.fc 37 = fc37 := rfl
theorem z37 : (cfg.fc 37).frz = [] := rfl
theorem c38 : cfg.fc 38 = fc38 := rfl
theorem z38 : (cfg.fc 38).frz = [] := rfl
theorem c39 : cfg.fc 39 = fc39 := rfl
theorem z39 : (cfg.fc 39).frz = [] := rfl
theorem c92 : cfg.fc 92 = fc92 := rfl
theorem z92 : (cfg.fc 92).frz = [] := rfl
theorem c102 : cfg.fc 102 = fc102 := rfl
theorem z102 : (cfg.fc 102).frz = [] := rfl
theorem c105 : cfg.fc 105 = fc105 := rfl
theorem z105 : (cfg.fc 105).frz = [] := rfl
theorem c108 : cfg.fc 108 = fc108 := rfl
theorem z108 : (cfg.fc 108).frz = [] := rfl
theorem c109 : cfg.fc 109 = fc109 := rfl
theorem z109 : (cfg.fc 109).frz = [] := rfl
theorem c110 : cfg.fc 110 = fc110 := rfl
theorem z110 : (cfg.fc 110).frz = [] := rfl
theorem c111 : cfg.fc 111 = fc111 := rfl
theorem z111 : (cfg.fc 111).frz = [19] := rfl
theorem c112 : cfg.fc 112 = fc112 := rfl
theorem z112 : (cfg.fc 112).frz = [] := rfl
theorem c113 : cfg.fc 113 = fc113 := rfl
theorem z113 : (cfg.fc 113).frz = [] := rfl
theorem c114 : cfg.fc 114 = fc114 := rfl
theorem z114 : (cfg.fc 114).frz = [4] := rfl
theorem c115 : cfg.fc 115 = fc115 := rfl
theorem z115 : (cfg.fc 115).frz = [] := rfl
theorem c116 : cfg.fc 116 = fc116 := rfl
theorem z116 : (cfg.fc 116).frz = [] := rfl
theorem c172 : cfg.fc 172 = fc172 := rfl
theorem z172 : (cfg.fc 172).frz = [] := rfl
theorem c194 : cfg.fc 194 = fc194 := rfl
theorem z194 : (cfg.fc 194).frz = [] := rfl
theorem c195 : cfg.fc 195 = fc195 := rfl
theorem z195 : (cfg.fc 195).frz = [] := rfl
theorem c196 : cfg.fc 196 = fc196 := rfl
theorem z196 : (cfg.fc 196).frz = [] := rfl
theorem c197 : cfg.fc 197 = fc197 := rfl
theorem z197 : (cfg.fc 197).frz = [] := rfl
theorem c198 : cfg.fc 198 = fc198 := rfl
theorem z198 : (cfg.fc 198).frz = [] := rfl
theorem c199 : cfg.fc 199 = fc199 := rfl
theorem z199 : (cfg.fc 199).frz = [] := rfl
theorem c242 : cfg.fc 242 = fc242 := rfl
theorem z242 : (cfg.fc 242).frz = [] := rfl
theorem c250 : cfg.fc 250 = fc250 := rfl
theorem z250 : (cfg.fc 250).frz = [] := rfl
theorem c252 : cfg.fc 252 = fc252 := rfl
theorem z252 : (cfg.fc 252).frz = [] := rfl
theorem c253 : cfg.fc 253 = fc253 := rfl
theorem z253 : (cfg.fc 253).frz = [] := rfl
theorem c276 : cfg.fc 276 = fc276 := rfl
theorem z276 : (cfg.fc 276).frz = [] := rfl
theorem c277 : cfg.fc 277 = fc277 := rfl
theorem z277 : (cfg.fc 277).frz = [] := rfl
theorem bF162 : buildF Try.prog 162 = some ([.nil, .im 0 (.sc (.int .i64 0)), .im 0 (.sc (.int .i64 0)), .nil, .nil, .im 0 (.sc (.int .i64 0)), .im 0 (.sc (.int .i64 0)), .im 0 (.sc (.bool false))], [(0, 1), (1, 1), (2, 1), (3, 1), (4, 1), (5, 1), (6, 1), (7, 1)]) := by kernel_rfl
theorem bF168 : buildF Try.prog 168 = some ([.nil, .im 0 (.sc (.int .i64 0)), .im 0 (.sc (.int .i64 0))], [(0, 1), (1, 1), (2, 1)]) := by kernel_rfl
theorem eF27 : elemSz Try.prog 27 = some (2, 1) := by kernel_rfl
theorem eF56 : elemSz Try.prog 56 = some (163, 3) := by kernel_rfl
theorem fF156_0 : fieldF Try.prog 156 0 = some 0 := by kernel_rfl
theorem fF156_1 : fieldF Try.prog 156 1 = some 1 := by kernel_rfl
theorem fF156_2 : fieldF Try.prog 156 2 = some 2 := by kernel_rfl
theorem fF162_0 : fieldF Try.prog 162 0 = some 0 := by kernel_rfl
theorem fF162_1 : fieldF Try.prog 162 1 = some 1 := by kernel_rfl
theorem fF162_2 : fieldF Try.prog 162 2 = some 2 := by kernel_rfl
theorem fF162_3 : fieldF Try.prog 162 3 = some 3 := by kernel_rfl
theorem fF162_4 : fieldF Try.prog 162 4 = some 4 := by kernel_rfl
theorem fF162_5 : fieldF Try.prog 162 5 = some 5 := by kernel_rfl
theorem fF162_6 : fieldF Try.prog 162 6 = some 6 := by kernel_rfl
theorem fF162_7 : fieldF Try.prog 162 7 = some 7 := by kernel_rfl
theorem fF163_0 : fieldF Try.prog 163 0 = some 0 := by kernel_rfl
theorem fF163_1 : fieldF Try.prog 163 1 = some 1 := by kernel_rfl
theorem fF163_2 : fieldF Try.prog 163 2 = some 2 := by kernel_rfl
theorem fF168_0 : fieldF Try.prog 168 0 = some 0 := by kernel_rfl
theorem fF168_1 : fieldF Try.prog 168 1 = some 1 := by kernel_rfl
theorem fF168_2 : fieldF Try.prog 168 2 = some 2 := by kernel_rfl
theorem fF48_0 : fieldF Try.prog 48 0 = some 0 := by kernel_rfl
theorem fF48_1 : fieldF Try.prog 48 1 = some 1 := by kernel_rfl
theorem fF48_2 : fieldF Try.prog 48 2 = some 2 := by kernel_rfl
theorem fF48_3 : fieldF Try.prog 48 3 = some 3 := by kernel_rfl
theorem fF54_0 : fieldF Try.prog 54 0 = some 0 := by kernel_rfl
theorem fF54_1 : fieldF Try.prog 54 1 = some 1 := by kernel_rfl
theorem fF54_2 : fieldF Try.prog 54 2 = some 2 := by kernel_rfl
theorem fF54_3 : fieldF Try.prog 54 3 = some 3 := by kernel_rfl
theorem kF102_2_2_2 : callK Try.prog cfg 102 0 [2, 2, 2] = [(.cst false, [none]), (.cst false, [none]), (.cst false, [none])] := by kernel_rfl
theorem kF105_27 : callK Try.prog cfg 105 0 [27] = [(.cst false, [some 1])] := by kernel_rfl
theorem kF108_3 : callK Try.prog cfg 108 0 [3] = [(.cst false, [none])] := by kernel_rfl
theorem kF109_156_3 : callK Try.prog cfg 109 0 [156, 3] = [(.cst false, [none, none, none]), (.cst false, [none])] := by kernel_rfl
theorem kF110_158_56 : callK Try.prog cfg 110 0 [158, 56] = [(.cst false, [none]), (.cst false, [some 3])] := by kernel_rfl
theorem kF111_56 : callK Try.prog cfg 111 0 [56] = [(.cst false, [some 3])] := by kernel_rfl
theorem kF112_159 : callK Try.prog cfg 112 0 [159] = [(.ptr [.imm, .imm, .imm, .sh, .sh, .imm, .imm, .imm], [none])] := by kernel_rfl
theorem kF113_156 : callK Try.prog cfg 113 0 [156] = [(.cst false, [none, none, none])] := by kernel_rfl
theorem kF114_54_56 : callK Try.prog cfg 114 0 [54, 56] = [(.cst false, [none, none, none, none]), (.cst false, [some 3])] := by kernel_rfl
theorem kF115_166_27_27_3 : callK Try.prog cfg 115 0 [166, 27, 27, 3] = [(.ptr [.imm, .imm, .imm], [none]), (.mv, [some 1]), (.cst false, [some 1]), (.cst false, [none])] := by kernel_rfl
theorem kF116_163_163 : callK Try.prog cfg 116 0 [163, 163] = [(.cst false, [none, none, none]), (.cst false, [none, none, none])] := by kernel_rfl
theorem kF172_2_2 : callK Try.prog cfg 172 0 [2, 2] = [(.cst false, [none]), (.cst false, [none])] := by kernel_rfl
theorem kF187_27 : callK Try.prog cfg 187 0 [27] = [(.cst false, [some 1])] := by kernel_rfl
theorem kF194_158 : callK Try.prog cfg 194 0 [158] = [(.cst false, [none])] := by kernel_rfl
theorem kF195_56 : callK Try.prog cfg 195 0 [56] = [(.cst false, [some 3])] := by kernel_rfl
theorem kF196_291 : callK Try.prog cfg 196 0 [291] = [(.cst false, [none])] := by kernel_rfl
theorem kF197_54 : callK Try.prog cfg 197 0 [54] = [(.cst false, [none, none, none, none])] := by kernel_rfl
theorem kF198_56 : callK Try.prog cfg 198 0 [56] = [(.cst false, [some 3])] := by kernel_rfl
theorem kF199_163 : callK Try.prog cfg 199 0 [163] = [(.cst false, [none, none, none])] := by kernel_rfl
theorem kF242_291 : callK Try.prog cfg 242 0 [291] = [(.cst false, [none])] := by kernel_rfl
theorem kF250_9 : callK Try.prog cfg 250 0 [9] = [(.cst false, [none])] := by kernel_rfl
theorem kF252_9 : callK Try.prog cfg 252 0 [9] = [(.cst false, [none])] := by kernel_rfl
theorem kF253_163 : callK Try.prog cfg 253 0 [163] = [(.cst false, [none, none, none])] := by kernel_rfl
theorem kF276_5 : callK Try.prog cfg 276 0 [5] = [(.cst false, [none])] := by kernel_rfl
theorem kF277_5 : callK Try.prog cfg 277 0 [5] = [(.cst false, [none])] := by kernel_rfl
theorem kF27_27_27 : callK Try.prog cfg 27 0 [27, 27] = [(.cst false, [some 1]), (.cst false, [some 1])] := by kernel_rfl
theorem kF30_27_3 : callK Try.prog cfg 30 0 [27, 3] = [(.row, [some 1]), (.cst false, [none])] := by kernel_rfl
theorem kF31_27_3 : callK Try.prog cfg 31 0 [27, 3] = [(.cst false, [some 1]), (.cst false, [none])] := by kernel_rfl
theorem kF32_48_3 : callK Try.prog cfg 32 0 [48, 3] = [(.cst false, [none, none, none, none]), (.cst false, [none])] := by kernel_rfl
theorem kF33_49_3 : callK Try.prog cfg 33 0 [49, 3] = [(.cst false, [some 3]), (.cst false, [none])] := by kernel_rfl
theorem kF34_54_56_2 : callK Try.prog cfg 34 0 [54, 56, 2] = [(.cst false, [none, none, none, none]), (.cst false, [some 3]), (.cst false, [none])] := by kernel_rfl
theorem kF35_48 : callK Try.prog cfg 35 0 [48] = [(.cst false, [none, none, none, none])] := by kernel_rfl
theorem kF36_49 : callK Try.prog cfg 36 0 [49] = [(.cst false, [some 3])] := by kernel_rfl
theorem kF37_54_56_2 : callK Try.prog cfg 37 0 [54, 56, 2] = [(.cst false, [none, none, none, none]), (.cst false, [some 3]), (.cst false, [none])] := by kernel_rfl
theorem kF38_56_56 : callK Try.prog cfg 38 0 [56, 56] = [(.cst false, [some 3]), (.cst false, [some 3])] := by kernel_rfl
theorem kF39_56_3 : callK Try.prog cfg 39 0 [56, 3] = [(.row, [some 3]), (.cst false, [none])] := by kernel_rfl
theorem kF92_2_2_2 : callK Try.prog cfg 92 0 [2, 2, 2] = [(.cst false, [none]), (.cst false, [none]), (.cst false, [none])] := by kernel_rfl
theorem rF102 : resK Try.prog (Try.f102.results.toList.zip Try.f102.resultTypes.toList) = [(.tmp 6, [none], none)] := by kernel_rfl
theorem rF105 : resK Try.prog (Try.f105.results.toList.zip Try.f105.resultTypes.toList) = [(.tmp 2, [some 1], none)] := by kernel_rfl
theorem rF108 : resK Try.prog (Try.f108.results.toList.zip Try.f108.resultTypes.toList) = [(.tmp 2, [none], none)] := by kernel_rfl
theorem rF109 : resK Try.prog (Try.f109.results.toList.zip Try.f109.resultTypes.toList) = [(.tmp 4, [none], none)] := by kernel_rfl
theorem rF110 : resK Try.prog (Try.f110.results.toList.zip Try.f110.resultTypes.toList) = [(.tmp 4, [none], none)] := by kernel_rfl
theorem rF111 : resK Try.prog (Try.f111.results.toList.zip Try.f111.resultTypes.toList) = [(.tmp 2, [some 1], none)] := by kernel_rfl
theorem rF112 : resK Try.prog (Try.f112.results.toList.zip Try.f112.resultTypes.toList) = [(.tmp 2, [none], none)] := by kernel_rfl
theorem rF113 : resK Try.prog (Try.f113.results.toList.zip Try.f113.resultTypes.toList) = [(.cell 2 163, [none, none, none], some (true, 3))] := by kernel_rfl
theorem rF114 : resK Try.prog (Try.f114.results.toList.zip Try.f114.resultTypes.toList) = [(.tmp 4, [some 1], none), (.tmp 5, [none], none)] := by kernel_rfl
theorem rF115 : resK Try.prog (Try.f115.results.toList.zip Try.f115.resultTypes.toList) = [(.tmp 8, [some 1], none), (.tmp 9, [none], none)] := by kernel_rfl
theorem rF116 : resK Try.prog (Try.f116.results.toList.zip Try.f116.resultTypes.toList) = [(.tmp 4, [none], none)] := by kernel_rfl
theorem rF172 : resK Try.prog (Try.f172.results.toList.zip Try.f172.resultTypes.toList) = [(.tmp 4, [none], none)] := by kernel_rfl
theorem rF187 : resK Try.prog (Try.f187.results.toList.zip Try.f187.resultTypes.toList) = [(.tmp 2, [some 1], none)] := by kernel_rfl
theorem rF194 : resK Try.prog (Try.f194.results.toList.zip Try.f194.resultTypes.toList) = [(.tmp 2, [none], none)] := by kernel_rfl
theorem rF195 : resK Try.prog (Try.f195.results.toList.zip Try.f195.resultTypes.toList) = [(.tmp 2, [none], none)] := by kernel_rfl
theorem rF196 : resK Try.prog (Try.f196.results.toList.zip Try.f196.resultTypes.toList) = [(.tmp 2, [none], none)] := by kernel_rfl
theorem rF197 : resK Try.prog (Try.f197.results.toList.zip Try.f197.resultTypes.toList) = [(.tmp 2, [none], none)] := by kernel_rfl
theorem rF198 : resK Try.prog (Try.f198.results.toList.zip Try.f198.resultTypes.toList) = [(.tmp 2, [none], none)] := by kernel_rfl
theorem rF199 : resK Try.prog (Try.f199.results.toList.zip Try.f199.resultTypes.toList) = [(.tmp 2, [none], none)] := by kernel_rfl
theorem rF242 : resK Try.prog (Try.f242.results.toList.zip Try.f242.resultTypes.toList) = [(.tmp 2, [none], none)] := by kernel_rfl
theorem rF250 : resK Try.prog (Try.f250.results.toList.zip Try.f250.resultTypes.toList) = [(.tmp 2, [none], none)] := by kernel_rfl
theorem rF252 : resK Try.prog (Try.f252.results.toList.zip Try.f252.resultTypes.toList) = [(.tmp 2, [none], none)] := by kernel_rfl
theorem rF253 : resK Try.prog (Try.f253.results.toList.zip Try.f253.resultTypes.toList) = [(.tmp 2, [none], none)] := by kernel_rfl
theorem rF27 : resK Try.prog (Try.f27.results.toList.zip Try.f27.resultTypes.toList) = [(.tmp 4, [none], none)] := by kernel_rfl
theorem rF276 : resK Try.prog (Try.f276.results.toList.zip Try.f276.resultTypes.toList) = [(.tmp 2, [none], none)] := by kernel_rfl
theorem rF277 : resK Try.prog (Try.f277.results.toList.zip Try.f277.resultTypes.toList) = [(.tmp 2, [none], none)] := by kernel_rfl
theorem rF30 : resK Try.prog (Try.f30.results.toList.zip Try.f30.resultTypes.toList) = [(.tmp 4, [none], none)] := by kernel_rfl
theorem rF31 : resK Try.prog (Try.f31.results.toList.zip Try.f31.resultTypes.toList) = [(.tmp 4, [none], none)] := by kernel_rfl
theorem rF32 : resK Try.prog (Try.f32.results.toList.zip Try.f32.resultTypes.toList) = [(.tmp 4, [none], none)] := by kernel_rfl
theorem rF33 : resK Try.prog (Try.f33.results.toList.zip Try.f33.resultTypes.toList) = [(.tmp 4, [none], none)] := by kernel_rfl
theorem rF34 : resK Try.prog (Try.f34.results.toList.zip Try.f34.resultTypes.toList) = [(.tmp 6, [some 1], none), (.tmp 7, [none], none), (.tmp 8, [none], none)] := by kernel_rfl
theorem rF35 : resK Try.prog (Try.f35.results.toList.zip Try.f35.resultTypes.toList) = [(.cell 2 54, [none, none, none, none], some (true, 4))] := by kernel_rfl
theorem rF36 : resK Try.prog (Try.f36.results.toList.zip Try.f36.resultTypes.toList) = [(.tmp 2, [some 3], none)] := by kernel_rfl
theorem rF37 : resK Try.prog (Try.f37.results.toList.zip Try.f37.resultTypes.toList) = [(.tmp 6, [some 1], none), (.tmp 7, [none], none), (.tmp 8, [none], none)] := by kernel_rfl
theorem rF38 : resK Try.prog (Try.f38.results.toList.zip Try.f38.resultTypes.toList) = [(.tmp 4, [none], none)] := by kernel_rfl
theorem rF39 : resK Try.prog (Try.f39.results.toList.zip Try.f39.resultTypes.toList) = [(.tmp 4, [none], none)] := by kernel_rfl
theorem rF5 : resK Try.prog (Try.f5.results.toList.zip Try.f5.resultTypes.toList) = [(.tmp 6, [none], none)] := by kernel_rfl
theorem rF92 : resK Try.prog (Try.f92.results.toList.zip Try.f92.resultTypes.toList) = [(.tmp 6, [none], none)] := by kernel_rfl
theorem sF22 : sliceF Try.prog 22 = some (5, 1, [none], false, 1, [.im 0 (.sc (.int .u8 0))]) := by kernel_rfl
theorem sF27 : sliceF Try.prog 27 = some (2, 1, [none], false, 8, [.im 0 (.sc (.int .i64 0))]) := by kernel_rfl
theorem sF49 : sliceF Try.prog 49 = some (156, 3, [none, none, none], true, 32, [.im 0 (.sc (.string ⟨#[]⟩)), .im 0 (.sc (.int .i64 0)), .im 0 (.sc (.int .i64 0))]) := by kernel_rfl
theorem sF56 : sliceF Try.prog 56 = some (163, 3, [none, none, none], true, 32, [.im 0 (.sc (.string ⟨#[]⟩)), .im 0 (.sc (.int .i64 0)), .im 0 (.sc (.int .i64 0))]) := by kernel_rfl
theorem tF156 : tyF Try.prog 156 = some ([.im 0 (.sc (.string ⟨#[]⟩)), .im 0 (.sc (.int .i64 0)), .im 0 (.sc (.int .i64 0))], [none, none, none], true, 3) := by kernel_rfl
theorem tF162 : tyF Try.prog 162 = some ([.nil, .im 0 (.sc (.int .i64 0)), .im 0 (.sc (.int .i64 0)), .nil, .nil, .im 0 (.sc (.int .i64 0)), .im 0 (.sc (.int .i64 0)), .im 0 (.sc (.bool false))], [some 1, none, none, some 1, some 1, none, none, none], true, 8) := by kernel_rfl
theorem tF163 : tyF Try.prog 163 = some ([.im 0 (.sc (.string ⟨#[]⟩)), .im 0 (.sc (.int .i64 0)), .im 0 (.sc (.int .i64 0))], [none, none, none], true, 3) := by kernel_rfl
theorem tF168 : tyF Try.prog 168 = some ([.nil, .im 0 (.sc (.int .i64 0)), .im 0 (.sc (.int .i64 0))], [some 1, none, none], true, 3) := by kernel_rfl
theorem tF2 : tyF Try.prog 2 = some ([.im 0 (.sc (.int .i64 0))], [none], false, 1) := by kernel_rfl
theorem tF27 : tyF Try.prog 27 = some ([.nil], [some 1], false, 1) := by kernel_rfl
theorem tF4 : tyF Try.prog 4 = some ([.im 0 (.sc (.bool false))], [none], false, 1) := by kernel_rfl
theorem tF48 : tyF Try.prog 48 = some ([.im 0 (.sc (.string ⟨#[]⟩)), .im 0 (.sc (.int .i64 0)), .im 0 (.sc (.int .i64 0)), .im 0 (.sc (.int .i64 0))], [none, none, none, none], true, 4) := by kernel_rfl
theorem tF54 : tyF Try.prog 54 = some ([.im 0 (.sc (.string ⟨#[]⟩)), .im 0 (.sc (.int .i64 0)), .im 0 (.sc (.int .i64 0)), .im 0 (.sc (.int .i64 0))], [none, none, none, none], true, 4) := by kernel_rfl
theorem tF9 : tyF Try.prog 9 = some ([.im 0 (.sc (.string ⟨#[]⟩))], [none], false, 1) := by kernel_rfl
theorem uF22 : Try.prog.underlying 22 = some (.slice 5) := by kernel_rfl
theorem uF27 : Try.prog.underlying 27 = some (.slice 2) := by kernel_rfl
theorem uF3 : Try.prog.underlying 3 = some (.int .i64) := by kernel_rfl
theorem uF49 : Try.prog.underlying 49 = some (.slice 156) := by kernel_rfl
theorem uF5 : Try.prog.underlying 5 = some (.int .u8) := by kernel_rfl
theorem uF56 : Try.prog.underlying 56 = some (.slice 163) := by kernel_rfl
theorem uF9 : Try.prog.underlying 9 = some .string := by kernel_rfl

theorem sgTn {P : Program} {cfg : Cfg} {C : CallF} {f nt d : Nat} {ops : Array Oper} {l : List Oper} {st st1 X : St} {op : Op} {ty : TypeId} {pos : String} {aft : Array Edge} {fz : List Nat} (hz : (cfg.fc f).frz = fz) (hd : fz.any (·.beq d) = false) {j t dj : Nat} {want v : Bool} (hj : (ops[j]?).bind (·.dst) = some dj) (hb : st.sl dj = .v false [.im t (.sc (.bool v))]) (hv : v = want)
    (h : evOp P cfg C nt ⟨some d, op, ty, pos, aft, some (j, want)⟩ st = some st1) (hr : evL P cfg f nt C ops l st1 = some X) : evL P cfg f nt C ops (⟨some d, op, ty, pos, aft, some (j, want)⟩ :: l) st = some X := by
  have hy : yields ops st j = some (some want) := by
    unfold yields
    rw [hj]
    simp only [hb, SV.bool?, hv, Option.map_some]
  simp only [evL, hy, Option.bind_some, if_true, h, Option.map_some, hz, hd, cond]
  exact hr

theorem L_laws_szBlade {a_0 : S_Blade} {left_1 : Int} {r : Int} (h : laws_szBlade a_0 left_1 = some r) : FL Try.prog cfg 32 [.im 2 true [.sc (.string a_0.Name), .sc (.int .i64 a_0.Life), .sc (.int .i64 a_0.Price), .sc (.int .i64 a_0.Speed)], .im 2 false [.sc (.int .i64 left_1)]] = some ([(false, [.im 0 (.sc (.int .i64 r))])], []) := by
  unfold laws_szBlade at h
  refine FL_goS (A := [(0, .v true [.im 2 (.sc (.string a_0.Name)), .im 2 (.sc (.int .i64 a_0.Life)), .im 2 (.sc (.int .i64 a_0.Price)), .im 2 (.sc (.int .i64 a_0.Speed))]), (1, .v false [.im 2 (.sc (.int .i64 left_1))])]) (B := [(0, none), (1, none)]) (nt := 13) rfl rfl Try.func32 rfl rfl rfl rfl ?_
  refine Go.seq ?_
  refine Go.r0 c32 rfl rfl (sq z32 (oBx rfl tF48 rfl (tkI (tkI (tkI (tkI tk0))))) <| sq z32 (oAsI rfl rfl) <| nl) ?_
  refine Unw.seq ?_
  refine Go.seq ?_
  refine Go.r0 c32 rfl rfl (sq z32 (oMv rfl rfl) <| sq z32 (oFA (r' := .mp 2 0 0) rfl fF48_0 rfl rfl) <| sq z32 (oLd (cs := [.im 0 _]) rfl tF9 rfl rfl) <| sq z32 (oLnS rfl rfl uF9 rfl) <| sq z32 (oBi rfl rfl rfl rfl) <| sq z32 (oAsI rfl rfl) <| nl) ?_
  refine Unw.seq ?_
  refine Go.seq ?_
  refine Go.seq ?_
  refine Go.r0 c32 rfl rfl (sq z32 (oMv rfl rfl) <| sq z32 (oBi rfl rfl rfl rfl) <| nl) ?_
  refine Unw.seq ?_
  by_cases hc1 : (w64 (left_1 - (a_0.Name.size : Int))) < 0
  · rw [if_pos hc1] at h
    refine Go.condT rfl (iDec.2 hc1) ?_
    refine Go.seq ?_
    refine Go.r0 c32 rfl rfl (sq z32 (oAsI rfl rfl) <| nl) ?_
    refine Unw.seq ?_
    refine Go.ret (Unw.ret ?_)
    cases h
    exact Fin_ret (fin_of rfl rF32 rfl (by kernel_rfl))
  · rw [if_neg hc1] at h
    refine Go.condF rfl (byF iDec hc1) ?_
    refine Go.skip ?_
    refine Unw.seq ?_
    refine Go.seq ?_
    refine Go.r0 c32 rfl rfl (sq z32 (oMv rfl rfl) <| sq z32 (oAsI rfl rfl) <| nl) ?_
    refine Unw.seq ?_
    refine Go.ret (Unw.ret ?_)
    cases h
    exact Fin_ret (fin_of rfl rF32 rfl (by kernel_rfl))
theorem L_laws_szCutting {a_0 : S_Cutting} {left_1 : Int} {r : Int} (h : laws_szCutting a_0 left_1 = some r) : FL Try.prog cfg 109 [.im 2 true [.sc (.string a_0.Name), .sc (.int .i64 a_0.Length), .sc (.int .i64 a_0.Hardness)], .im 2 false [.sc (.int .i64 left_1)]] = some ([(false, [.im 0 (.sc (.int .i64 r))])], []) := by
  unfold laws_szCutting at h
  refine FL_goS (A := [(0, .v true [.im 2 (.sc (.string a_0.Name)), .im 2 (.sc (.int .i64 a_0.Length)), .im 2 (.sc (.int .i64 a_0.Hardness))]), (1, .v false [.im 2 (.sc (.int .i64 left_1))])]) (B := [(0, none), (1, none)]) (nt := 13) rfl rfl Try.func109 rfl rfl rfl rfl ?_
  refine Go.seq ?_
  refine Go.r0 c109 rfl rfl (sq z109 (oBx rfl tF156 rfl (tkI (tkI (tkI tk0)))) <| sq z109 (oAsI rfl rfl) <| nl) ?_
  refine Unw.seq ?_
  refine Go.seq ?_
  refine Go.r0 c109 rfl rfl (sq z109 (oMv rfl rfl) <| sq z109 (oFA (r' := .mp 2 0 0) rfl fF156_0 rfl rfl) <| sq z109 (oLd (cs := [.im 0 _]) rfl tF9 rfl rfl) <| sq z109 (oLnS rfl rfl uF9 rfl) <| sq z109 (oBi rfl rfl rfl rfl) <| sq z109 (oAsI rfl rfl) <| nl) ?_
  refine Unw.seq ?_
  refine Go.seq ?_
  refine Go.seq ?_
  refine Go.r0 c109 rfl rfl (sq z109 (oMv rfl rfl) <| sq z109 (oBi rfl rfl rfl rfl) <| nl) ?_
  refine Unw.seq ?_
  by_cases hc1 : (w64 (left_1 - (a_0.Name.size : Int))) < 0
  · rw [if_pos hc1] at h
    refine Go.condT rfl (iDec.2 hc1) ?_
    refine Go.seq ?_
    refine Go.r0 c109 rfl rfl (sq z109 (oAsI rfl rfl) <| nl) ?_
    refine Unw.seq ?_
    refine Go.ret (Unw.ret ?_)
    cases h
    exact Fin_ret (fin_of rfl rF109 rfl (by kernel_rfl))
  · rw [if_neg hc1] at h
    refine Go.condF rfl (byF iDec hc1) ?_
    refine Go.skip ?_
    refine Unw.seq ?_
    refine Go.seq ?_
    refine Go.r0 c109 rfl rfl (sq z109 (oMv rfl rfl) <| sq z109 (oAsI rfl rfl) <| nl) ?_
    refine Unw.seq ?_
    refine Go.ret (Unw.ret ?_)
    cases h
    exact Fin_ret (fin_of rfl rF109 rfl (by kernel_rfl))
theorem L_laws_szCuttingS {a_0 : (List S_Cutting)} {left_1 : Int} {r : Int} (h : laws_szCuttingS a_0 left_1 = some r) : FL Try.prog cfg 33 [.im 2 false [.row 3 (List.map e_S_Cutting a_0)], .im 2 false [.sc (.int .i64 left_1)]] = some ([(false, [.im 0 (.sc (.int .i64 r))])], []) := by
  unfold laws_szCuttingS at h
  refine FL_goS (A := [(0, .v false [.im 2 (.row 3 (List.map e_S_Cutting a_0))]), (1, .v false [.im 2 (.sc (.int .i64 left_1))])]) (B := [(0, none), (1, none)]) (nt := 27) rfl rfl Try.func33 rfl rfl rfl rfl ?_
  refine Go.seq ?_
  refine Go.r0 c33 rfl rfl (sq z33 (oAsI rfl rfl) <| nl) ?_
  refine Unw.seq ?_
  refine Go.seq ?_
  refine Go.r0 c33 rfl rfl (sq z33 (oMv rfl rfl) <| sq z33 (oMv rfl rfl) <| sq z33 (oLnI rfl rfl uF49 rfl) <| sq z33 (oBi rfl rfl rfl rfl) <| sq z33 (oAsI rfl rfl) <| nl) ?_
  refine Unw.seq ?_
  refine Go.seq ?_
  refine Go.seq ?_
  refine Go.r0 c33 rfl rfl (sq z33 (oMv rfl rfl) <| sq z33 (oBi rfl rfl rfl rfl) <| nl) ?_
  refine Unw.seq ?_
  by_cases hc1 : (w64 (left_1 - (a_0.length : Int))) < 0
  · rw [if_pos hc1] at h
    refine Go.condT rfl (iDec.2 hc1) ?_
    refine Go.seq ?_
    refine Go.r0 c33 rfl rfl (sq z33 (oAsI rfl rfl) <| nl) ?_
    refine Unw.seq ?_
    refine Go.ret (Unw.ret ?_)
    cases h
    exact Fin_ret (fin_of rfl rF33 rfl (by kernel_rfl))
  · rw [if_neg hc1] at h
    refine Go.condF rfl (byF iDec hc1) ?_
    refine Go.skip ?_
    refine Unw.seq ?_
    refine Go.seq ?_
    refine Go.seq ?_
    refine Go.r0 c33 rfl rfl (sq z33 (oAsI rfl rfl) <| nl) ?_
    refine Unw.seq ?_
    refine Go.block ?_
    obtain ⟨o, hl, h⟩ := bs h
    refine Go.lp c33 rfl _ (fun (s : (Int × Int)) => match s with | (left_1_l5, i_5_l5) => mk [(0, .v false [.im 2 (.row 3 (List.map e_S_Cutting a_0))]), (1, iv left_1_l5), (5, iv i_5_l5)] []) (fun (o : (Int ⊕ Int)) (p : Ex × St) => match o with | (.inl left_1_e0_5) => p.1 = .exit 0 ∧ p.2.norm ([1], []) = mk [(1, iv left_1_e0_5)] [] | (.inr r2) => p.1 = .ret ∧ fin Try.prog cfg 33 Try.f33 [.im 2 false [.row 3 (List.map e_S_Cutting a_0)], .im 2 false [.sc (.int .i64 left_1)]] p.2 = some ([(false, [.im 0 (.sc (.int .i64 r2))])], [])) hl (by kernel_rfl) ?_ ?_ ?_
    · intro o p hp e
      rcases o with left_1_e0_5 | r2 <;> exact nomatch (hp.1.symm.trans e)
    · rintro ⟨left_1_l5, i_5_l5⟩ o h
      unfold laws_szCuttingS_l5 at h
      dsimp only at h
      refine Go.seq ?_
      refine Go.seq ?_
      refine Go.r0 c33 rfl rfl (sq z33 (oMv rfl rfl) <| sq z33 (oMv rfl rfl) <| sq z33 (oLnI rfl rfl uF49 rfl) <| sq z33 (oBi rfl rfl rfl rfl) <| nl) ?_
      refine Unw.seq ?_
      by_cases hc6 : i_5_l5 < (a_0.length : Int)
      · rw [if_pos hc6] at h
        refine Go.condT rfl (iDec.2 hc6) ?_
        refine Go.skip ?_
        refine Unw.seq ?_
        refine Go.seq ?_
        refine Go.block ?_
        refine Go.seq ?_
        obtain ⟨x20, hx20, h⟩ := bs h
        obtain ⟨x23, hx23, h⟩ := bs h
        refine Go.r0 c33 rfl rfl (sq z33 (oMv rfl rfl) <| sq z33 (oMv rfl rfl) <| sq z33 (oIAI rfl hx20 sF49 rfl rfl) <| sq z33 (oLd (cs := [.im 2 _, .im 2 _, .im 2 _]) rfl tF156 rfl rfl) <| sq z33 (oMv rfl rfl) <| sq z33 (oCa (xs := [.v true [.im 2 _, .im 2 _, .im 2 _], .v false [.im 0 _]]) (vs := [(false, [.im 0 _])]) (v := .v false [.im 0 _]) (L_laws_szCutting hx23) (.inl rfl) rfl kF109_156_3 rfl (ppC rfl (ppC rfl pp0)) rfl rfl pb0 rfl rfl rfl) <| sq z33 (oAsI rfl rfl) <| nl) ?_
        refine Unw.seq ?_
        refine Go.seq ?_
        refine Go.r0 c33 rfl rfl (sq z33 (oMv rfl rfl) <| sq z33 (oBi rfl rfl rfl rfl) <| nl) ?_
        refine Unw.seq ?_
        by_cases hc7 : x23 < 0
        · rw [if_pos hc7] at h
          refine Go.condT rfl (iDec.2 hc7) ?_
          refine Go.seq ?_
          refine Go.r0 c33 rfl rfl (sq z33 (oAsI rfl rfl) <| nl) ?_
          refine Unw.seq ?_
          refine Go.ret (Unw.ret ?_)
          cases h
          exact ⟨rfl, (fin_of rfl rF33 rfl (by kernel_rfl))⟩
        · rw [if_neg hc7] at h
          refine Go.condF rfl (byF iDec hc7) ?_
          refine Go.skip ?_
          refine Unw.blk ?_
          refine Unw.seq ?_
          refine Go.r0 c33 rfl rfl (sq z33 (oMv rfl rfl) <| sq z33 (oBi rfl rfl rfl rfl) <| sq z33 (oAsI rfl rfl) <| nl) ?_
          refine Unw.nil ?_
          cases h
          exact ⟨rfl, (by kernel_rfl)⟩
      · rw [if_neg hc6] at h
        refine Go.condF rfl (byF iDec hc6) ?_
        refine Go.exit ?_
        refine Unw.seqx ?_
        refine Unw.nil ?_
        cases h
        exact ⟨rfl, (by kernel_rfl)⟩
    · rintro ⟨e, st⟩ hp
      rcases o with left_1_e0_5 | r2
      · dsimp only at h
        obtain ⟨he, hst⟩ := hp
        obtain rfl : e = .exit 0 := he
        refine Unw.blkx ?_
        refine Unw.seq ?_
        refine Go.seq ?_
        refine Go.r1 c33 rfl rfl hst (sq z33 (oMv rfl rfl) <| sq z33 (oAsI rfl rfl) <| nl) ?_
        refine Unw.seq ?_
        refine Go.ret (Unw.ret ?_)
        cases h
        exact Fin_ret (fin_of rfl rF33 rfl (by kernel_rfl))
      · dsimp only at h
        obtain ⟨he, hfin⟩ := hp
        obtain rfl : e = .ret := he
        cases h
        exact Unw.ret (Fin_ret hfin)
theorem L_laws_toBlade {a_0 : S_Blade} {r : S_Blade} (h : laws_toBlade a_0 = some r) : FL Try.prog cfg 35 [.im 2 true [.sc (.string a_0.Name), .sc (.int .i64 a_0.Life), .sc (.int .i64 a_0.Price), .sc (.int .i64 a_0.Speed)]] = some ([(true, [.im 0 (.sc (.string r.Name)), .im 0 (.sc (.int .i64 r.Life)), .im 0 (.sc (.int .i64 r.Price)), .im 0 (.sc (.int .i64 r.Speed))])], []) := by
  unfold laws_toBlade at h
  refine FL_goS (A := [(0, .v true [.im 2 (.sc (.string a_0.Name)), .im 2 (.sc (.int .i64 a_0.Life)), .im 2 (.sc (.int .i64 a_0.Price)), .im 2 (.sc (.int .i64 a_0.Speed))])]) (B := [(0, none)]) (nt := 17) rfl rfl Try.func35 rfl rfl rfl rfl ?_
  refine Go.seq ?_
  refine Go.r0 c35 rfl rfl (sq z35 (oBx rfl tF48 rfl (tkI (tkI (tkI (tkI tk0))))) <| sq z35 (oAl rfl tF54 (tkI (tkI (tkI (tkI tk0))))) <| nl) ?_
  refine Unw.seq ?_
  refine Go.seq ?_
  refine Go.r0 c35 rfl rfl (sq z35 (oAl rfl tF54 (tkI (tkI (tkI (tkI tk0))))) <| nl) ?_
  refine Unw.seq ?_
  refine Go.seq ?_
  refine Go.r0 c35 rfl rfl (sq z35 (oFA (r' := .mp 1 0 0) rfl fF48_0 rfl rfl) <| sq z35 (oLd (cs := [.im 0 _]) rfl tF9 rfl rfl) <| sq z35 (oFA (r' := .mp 3 0 0) rfl fF54_0 rfl rfl) <| sq z35 (oSt tF9 rfl rfl rfl (tkI tk0) rfl rfl rfl) <| nl) ?_
  refine Unw.seq ?_
  refine Go.seq ?_
  refine Go.r1 c35 rfl rfl (st1 := mk [(1, .v false [.mp 1 0 0]), (2, .v false [.mp 2 0 0]), (3, .v false [.mp 3 0 0])] [(1, some ⟨0, 0, false, true, false, true, [⟨.imm, 0, 0, .sc (.string a_0.Name)⟩, ⟨.imm, 0, 0, .sc (.int .i64 a_0.Life)⟩, ⟨.imm, 0, 0, .sc (.int .i64 a_0.Price)⟩, ⟨.imm, 0, 0, .sc (.int .i64 a_0.Speed)⟩]⟩), (2, some ⟨0, 0, false, true, false, true, [⟨.imm, 0, 0, .sc (.string (⟨#[]⟩ : ByteArray))⟩, ⟨.imm, 0, 0, .sc (.int .i64 0)⟩, ⟨.imm, 0, 0, .sc (.int .i64 0)⟩, ⟨.imm, 0, 0, .sc (.int .i64 0)⟩]⟩), (3, some ⟨0, 0, false, true, false, true, [⟨.imm, 0, 0, .sc (.string a_0.Name)⟩, ⟨.imm, 0, 0, .sc (.int .i64 0)⟩, ⟨.imm, 0, 0, .sc (.int .i64 0)⟩, ⟨.imm, 0, 0, .sc (.int .i64 0)⟩]⟩)]) (by kernel_rfl) (sq z35 (oFA (r' := .mp 1 0 1) rfl fF48_1 rfl rfl) <| sq z35 (oLd (cs := [.im 0 _]) rfl tF2 rfl rfl) <| sq z35 (oFA (r' := .mp 3 0 1) rfl fF54_1 rfl rfl) <| sq z35 (oSt tF2 rfl rfl rfl (tkI tk0) rfl rfl rfl) <| nl) ?_
  refine Unw.seq ?_
  refine Go.seq ?_
  refine Go.r1 c35 rfl rfl (st1 := mk [(1, .v false [.mp 1 0 0]), (2, .v false [.mp 2 0 0]), (3, .v false [.mp 3 0 0])] [(1, some ⟨0, 0, false, true, false, true, [⟨.imm, 0, 0, .sc (.string a_0.Name)⟩, ⟨.imm, 0, 0, .sc (.int .i64 a_0.Life)⟩, ⟨.imm, 0, 0, .sc (.int .i64 a_0.Price)⟩, ⟨.imm, 0, 0, .sc (.int .i64 a_0.Speed)⟩]⟩), (2, some ⟨0, 0, false, true, false, true, [⟨.imm, 0, 0, .sc (.string (⟨#[]⟩ : ByteArray))⟩, ⟨.imm, 0, 0, .sc (.int .i64 0)⟩, ⟨.imm, 0, 0, .sc (.int .i64 0)⟩, ⟨.imm, 0, 0, .sc (.int .i64 0)⟩]⟩), (3, some ⟨0, 0, false, true, false, true, [⟨.imm, 0, 0, .sc (.string a_0.Name)⟩, ⟨.imm, 0, 0, .sc (.int .i64 a_0.Life)⟩, ⟨.imm, 0, 0, .sc (.int .i64 0)⟩, ⟨.imm, 0, 0, .sc (.int .i64 0)⟩]⟩)]) (by kernel_rfl) (sq z35 (oFA (r' := .mp 1 0 2) rfl fF48_2 rfl rfl) <| sq z35 (oLd (cs := [.im 0 _]) rfl tF2 rfl rfl) <| sq z35 (oFA (r' := .mp 3 0 2) rfl fF54_2 rfl rfl) <| sq z35 (oSt tF2 rfl rfl rfl (tkI tk0) rfl rfl rfl) <| nl) ?_
  refine Unw.seq ?_
  refine Go.seq ?_
  refine Go.r1 c35 rfl rfl (st1 := mk [(1, .v false [.mp 1 0 0]), (2, .v false [.mp 2 0 0]), (3, .v false [.mp 3 0 0])] [(1, some ⟨0, 0, false, true, false, true, [⟨.imm, 0, 0, .sc (.string a_0.Name)⟩, ⟨.imm, 0, 0, .sc (.int .i64 a_0.Life)⟩, ⟨.imm, 0, 0, .sc (.int .i64 a_0.Price)⟩, ⟨.imm, 0, 0, .sc (.int .i64 a_0.Speed)⟩]⟩), (2, some ⟨0, 0, false, true, false, true, [⟨.imm, 0, 0, .sc (.string (⟨#[]⟩ : ByteArray))⟩, ⟨.imm, 0, 0, .sc (.int .i64 0)⟩, ⟨.imm, 0, 0, .sc (.int .i64 0)⟩, ⟨.imm, 0, 0, .sc (.int .i64 0)⟩]⟩), (3, some ⟨0, 0, false, true, false, true, [⟨.imm, 0, 0, .sc (.string a_0.Name)⟩, ⟨.imm, 0, 0, .sc (.int .i64 a_0.Life)⟩, ⟨.imm, 0, 0, .sc (.int .i64 a_0.Price)⟩, ⟨.imm, 0, 0, .sc (.int .i64 0)⟩]⟩)]) (by kernel_rfl) (sq z35 (oFA (r' := .mp 1 0 3) rfl fF48_3 rfl rfl) <| sq z35 (oLd (cs := [.im 0 _]) rfl tF2 rfl rfl) <| sq z35 (oFA (r' := .mp 3 0 3) rfl fF54_3 rfl rfl) <| sq z35 (oSt tF2 rfl rfl rfl (tkI tk0) rfl rfl rfl) <| nl) ?_
  refine Unw.seq ?_
  refine Go.seq ?_
  refine Go.r1 c35 rfl rfl (st1 := mk [(2, .v false [.mp 2 0 0]), (3, .v false [.mp 3 0 0])] [(2, some ⟨0, 0, false, true, false, true, [⟨.imm, 0, 0, .sc (.string (⟨#[]⟩ : ByteArray))⟩, ⟨.imm, 0, 0, .sc (.int .i64 0)⟩, ⟨.imm, 0, 0, .sc (.int .i64 0)⟩, ⟨.imm, 0, 0, .sc (.int .i64 0)⟩]⟩), (3, some ⟨0, 0, false, true, false, true, [⟨.imm, 0, 0, .sc (.string a_0.Name)⟩, ⟨.imm, 0, 0, .sc (.int .i64 a_0.Life)⟩, ⟨.imm, 0, 0, .sc (.int .i64 a_0.Price)⟩, ⟨.imm, 0, 0, .sc (.int .i64 a_0.Speed)⟩]⟩)]) (by kernel_rfl) (sq z35 (oLd (cs := [.im 0 _, .im 0 _, .im 0 _, .im 0 _]) rfl tF54 rfl rfl) <| sq z35 (oSt tF54 rfl rfl rfl (tkI (tkI (tkI (tkI tk0)))) rfl rfl rfl) <| nl) ?_
  refine Unw.seq ?_
  refine Go.ret (Unw.ret ?_)
  cases h
  exact Fin_ret (fin_of rfl rF35 rfl (by kernel_rfl))
theorem L_laws_toCutting {a_0 : S_Cutting} {r : S_Cutting} (h : laws_toCutting a_0 = some r) : FL Try.prog cfg 113 [.im 2 true [.sc (.string a_0.Name), .sc (.int .i64 a_0.Length), .sc (.int .i64 a_0.Hardness)]] = some ([(true, [.im 0 (.sc (.string r.Name)), .im 0 (.sc (.int .i64 r.Length)), .im 0 (.sc (.int .i64 r.Hardness))])], []) := by
  unfold laws_toCutting at h
  refine FL_goS (A := [(0, .v true [.im 2 (.sc (.string a_0.Name)), .im 2 (.sc (.int .i64 a_0.Length)), .im 2 (.sc (.int .i64 a_0.Hardness))])]) (B := [(0, none)]) (nt := 14) rfl rfl Try.func113 rfl rfl rfl rfl ?_
  refine Go.seq ?_
  refine Go.r0 c113 rfl rfl (sq z113 (oBx rfl tF156 rfl (tkI (tkI (tkI tk0)))) <| sq z113 (oAl rfl tF163 (tkI (tkI (tkI tk0)))) <| nl) ?_
  refine Unw.seq ?_
  refine Go.seq ?_
  refine Go.r0 c113 rfl rfl (sq z113 (oAl rfl tF163 (tkI (tkI (tkI tk0)))) <| nl) ?_
  refine Unw.seq ?_
  refine Go.seq ?_
  refine Go.r0 c113 rfl rfl (sq z113 (oFA (r' := .mp 1 0 0) rfl fF156_0 rfl rfl) <| sq z113 (oLd (cs := [.im 0 _]) rfl tF9 rfl rfl) <| sq z113 (oFA (r' := .mp 3 0 0) rfl fF163_0 rfl rfl) <| sq z113 (oSt tF9 rfl rfl rfl (tkI tk0) rfl rfl rfl) <| nl) ?_
  refine Unw.seq ?_
  refine Go.seq ?_
  refine Go.r1 c113 rfl rfl (st1 := mk [(1, .v false [.mp 1 0 0]), (2, .v false [.mp 2 0 0]), (3, .v false [.mp 3 0 0])] [(1, some ⟨0, 0, false, true, false, true, [⟨.imm, 0, 0, .sc (.string a_0.Name)⟩, ⟨.imm, 0, 0, .sc (.int .i64 a_0.Length)⟩, ⟨.imm, 0, 0, .sc (.int .i64 a_0.Hardness)⟩]⟩), (2, some ⟨0, 0, false, true, false, true, [⟨.imm, 0, 0, .sc (.string (⟨#[]⟩ : ByteArray))⟩, ⟨.imm, 0, 0, .sc (.int .i64 0)⟩, ⟨.imm, 0, 0, .sc (.int .i64 0)⟩]⟩), (3, some ⟨0, 0, false, true, false, true, [⟨.imm, 0, 0, .sc (.string a_0.Name)⟩, ⟨.imm, 0, 0, .sc (.int .i64 0)⟩, ⟨.imm, 0, 0, .sc (.int .i64 0)⟩]⟩)]) (by kernel_rfl) (sq z113 (oFA (r' := .mp 1 0 1) rfl fF156_1 rfl rfl) <| sq z113 (oLd (cs := [.im 0 _]) rfl tF2 rfl rfl) <| sq z113 (oFA (r' := .mp 3 0 1) rfl fF163_1 rfl rfl) <| sq z113 (oSt tF2 rfl rfl rfl (tkI tk0) rfl rfl rfl) <| nl) ?_
  refine Unw.seq ?_
  refine Go.seq ?_
  refine Go.r1 c113 rfl rfl (st1 := mk [(1, .v false [.mp 1 0 0]), (2, .v false [.mp 2 0 0]), (3, .v false [.mp 3 0 0])] [(1, some ⟨0, 0, false, true, false, true, [⟨.imm, 0, 0, .sc (.string a_0.Name)⟩, ⟨.imm, 0, 0, .sc (.int .i64 a_0.Length)⟩, ⟨.imm, 0, 0, .sc (.int .i64 a_0.Hardness)⟩]⟩), (2, some ⟨0, 0, false, true, false, true, [⟨.imm, 0, 0, .sc (.string (⟨#[]⟩ : ByteArray))⟩, ⟨.imm, 0, 0, .sc (.int .i64 0)⟩, ⟨.imm, 0, 0, .sc (.int .i64 0)⟩]⟩), (3, some ⟨0, 0, false, true, false, true, [⟨.imm, 0, 0, .sc (.string a_0.Name)⟩, ⟨.imm, 0, 0, .sc (.int .i64 a_0.Length)⟩, ⟨.imm, 0, 0, .sc (.int .i64 0)⟩]⟩)]) (by kernel_rfl) (sq z113 (oFA (r' := .mp 1 0 2) rfl fF156_2 rfl rfl) <| sq z113 (oLd (cs := [.im 0 _]) rfl tF2 rfl rfl) <| sq z113 (oFA (r' := .mp 3 0 2) rfl fF163_2 rfl rfl) <| sq z113 (oSt tF2 rfl rfl rfl (tkI tk0) rfl rfl rfl) <| nl) ?_
  refine Unw.seq ?_
  refine Go.seq ?_
  refine Go.r1 c113 rfl rfl (st1 := mk [(2, .v false [.mp 2 0 0]), (3, .v false [.mp 3 0 0])] [(2, some ⟨0, 0, false, true, false, true, [⟨.imm, 0, 0, .sc (.string (⟨#[]⟩ : ByteArray))⟩, ⟨.imm, 0, 0, .sc (.int .i64 0)⟩, ⟨.imm, 0, 0, .sc (.int .i64 0)⟩]⟩), (3, some ⟨0, 0, false, true, false, true, [⟨.imm, 0, 0, .sc (.string a_0.Name)⟩, ⟨.imm, 0, 0, .sc (.int .i64 a_0.Length)⟩, ⟨.imm, 0, 0, .sc (.int .i64 a_0.Hardness)⟩]⟩)]) (by kernel_rfl) (sq z113 (oLd (cs := [.im 0 _, .im 0 _, .im 0 _]) rfl tF163 rfl rfl) <| sq z113 (oSt tF163 rfl rfl rfl (tkI (tkI (tkI tk0))) rfl rfl rfl) <| nl) ?_
  refine Unw.seq ?_
  refine Go.ret (Unw.ret ?_)
  cases h
  exact Fin_ret (fin_of rfl rF113 rfl (by kernel_rfl))
theorem L_laws_toCuttingS {a_0 : (List S_Cutting)} {r : (List S_Cutting)} (h : laws_toCuttingS a_0 = some r) : FL Try.prog cfg 36 [.im 2 false [.row 3 (List.map e_S_Cutting a_0)]] = some ([(false, [.ow 0 3 (List.map e_S_Cutting r)])], []) := by
  unfold laws_toCuttingS at h
  refine FL_goS (A := [(0, .v false [.im 2 (.row 3 (List.map e_S_Cutting a_0))])]) (B := [(0, none)]) (nt := 23) rfl rfl Try.func36 rfl rfl rfl rfl ?_
  refine Go.seq ?_
  refine Go.r0 c36 rfl rfl (sq z36 (oAsN rfl rfl eF56) <| nl) ?_
  refine Unw.seq ?_
  refine Go.seq ?_
  obtain ⟨x7, hx7, h⟩ := bs h
  refine Go.r0 c36 rfl rfl (sq z36 (oMv rfl rfl) <| sq z36 (oLnI rfl rfl uF49 rfl) <| sq z36 (oMk (en := e_S_Cutting) rfl hx7 rfl sF56 rfl rfl (fxI (fxI (fxI fx0))) rfl (flat0 (L := [_]) rfl fun _ => rfl)) <| sq z36 (oAsO rfl rfl rfl rfl rfl) <| nl) ?_
  refine Unw.seq ?_
  refine Go.seq ?_
  refine Go.seq ?_
  refine Go.r0 c36 rfl rfl (sq z36 (oAsI rfl rfl) <| nl) ?_
  refine Unw.seq ?_
  refine Go.block ?_
  obtain ⟨o, hl, h⟩ := bs h
  refine Go.lp c36 rfl _ (fun (s : (Int × (List S_Cutting))) => match s with | (i_4_l3, out_o3_l3) => mk [(0, .v false [.im 2 (.row 3 (List.map e_S_Cutting a_0))]), (3, .v false [.own 3 0 0]), (4, iv i_4_l3)] [(3, some ⟨0, 0, false, false, false, false, [⟨.sh, 0, 0, .row 3 (List.map e_S_Cutting out_o3_l3)⟩]⟩)]) (fun (out_o3_e0_3 : (List S_Cutting)) (p : Ex × St) => p.1 = .exit 0 ∧ p.2.norm ([3], [3]) = mk [(3, .v false [.own 3 0 0])] [(3, some ⟨0, 0, false, false, false, false, [⟨.sh, 0, 0, .row 3 (List.map e_S_Cutting out_o3_e0_3)⟩]⟩)]) hl (by kernel_rfl) ?_ ?_ ?_
  · intro o p hp e
    exact nomatch (hp.1.symm.trans e)
  · rintro ⟨i_4_l3, out_o3_l3⟩ o h
    unfold laws_toCuttingS_l3 at h
    dsimp only at h
    refine Go.seq ?_
    refine Go.seq ?_
    refine Go.r0 c36 rfl rfl (sq z36 (oMv rfl rfl) <| sq z36 (oMv rfl rfl) <| sq z36 (oLnI rfl rfl uF49 rfl) <| sq z36 (oBi rfl rfl rfl rfl) <| nl) ?_
    refine Unw.seq ?_
    by_cases hc3 : i_4_l3 < (a_0.length : Int)
    · rw [if_pos hc3] at h
      refine Go.condT rfl (iDec.2 hc3) ?_
      refine Go.skip ?_
      refine Unw.seq ?_
      refine Go.seq ?_
      refine Go.block ?_
      obtain ⟨x18, hx18, h⟩ := bs h
      obtain ⟨x20, hx20, h⟩ := bs h
      obtain ⟨x21, hx21, h⟩ := bs h
      refine Go.r0 c36 rfl rfl (sq z36 (oMv rfl rfl) <| sq z36 (oMv rfl rfl) <| sq z36 (oMv rfl rfl) <| sq z36 (oMv rfl rfl) <| sq z36 (oIAI rfl hx18 sF49 rfl rfl) <| sq z36 (oLd (cs := [.im 2 _, .im 2 _, .im 2 _]) rfl tF156 rfl rfl) <| sq z36 (oCa (xs := [.v true [.im 2 _, .im 2 _, .im 2 _]]) (vs := [(true, [.im 0 _, .im 0 _, .im 0 _])]) (v := .v true [.im 0 _, .im 0 _, .im 0 _]) (L_laws_toCutting hx20) (.inl rfl) rfl kF113_156 rfl (ppC rfl pp0) rfl rfl pb0 rfl rfl rfl) <| sq z36 (oIAO rfl hx21 sF56 rfl rfl rfl rfl) <| sq z36 (oStE (v' := x20) tF163 rfl rfl rfl (fxI (fxI (fxI fx0))) rfl rfl (rd_get hx21) rfl) <| nl) ?_
      refine Unw.blk ?_
      refine Unw.seq ?_
      refine Go.r1 c36 rfl rfl (st1 := mk [(0, .v false [.im 2 (.row 3 (List.map e_S_Cutting a_0))]), (3, .v false [.own 3 0 0]), (4, iv i_4_l3)] [(3, some ⟨0, 0, false, false, false, false, [⟨.sh, 0, 0, .row 3 (List.map e_S_Cutting (out_o3_l3.set i_4_l3.toNat x20))⟩]⟩)]) (by kernel_rfl) (sq z36 (oMv rfl rfl) <| sq z36 (oBi rfl rfl rfl rfl) <| sq z36 (oAsI rfl rfl) <| nl) ?_
      refine Unw.nil ?_
      cases h
      exact ⟨rfl, (by kernel_rfl)⟩
    · rw [if_neg hc3] at h
      refine Go.condF rfl (byF iDec hc3) ?_
      refine Go.exit ?_
      refine Unw.seqx ?_
      refine Unw.nil ?_
      cases h
      exact ⟨rfl, (by kernel_rfl)⟩
  · rintro ⟨e, st⟩ hp
    obtain ⟨out_o3_e0_3, rfl⟩ : ∃ y, y = o := ⟨o, rfl⟩
    obtain ⟨he, hst⟩ := hp
    obtain rfl : e = .exit 0 := he
    refine Unw.blkx ?_
    refine Unw.seq ?_
    refine Go.seq ?_
    refine Go.r1 c36 rfl rfl hst (sq z36 (oMv rfl rfl) <| sq z36 (oAsO rfl rfl rfl rfl rfl) <| nl) ?_
    refine Unw.seq ?_
    refine Go.ret (Unw.ret ?_)
    cases h
    exact Fin_ret (fin_of rfl rF36 rfl (by kernel_rfl))
theorem L_spec_l01Small {c_0 : Int} {r : Bool} (h : spec_l01Small c_0 = some r) : FL Try.prog cfg 276 [.im 2 false [.sc (.int .u8 c_0)]] = some ([(false, [.im 0 (.sc (.bool r))])], []) := by
  unfold spec_l01Small at h
  refine FL_goS (A := [(0, .v false [.im 2 (.sc (.int .u8 c_0))])]) (B := [(0, none)]) (nt := 9) rfl rfl Try.func276 rfl rfl rfl rfl ?_
  refine Go.seq ?_
  refine Go.r0 c276 rfl rfl (sq z276 (oAsI rfl rfl) <| nl) ?_
  refine Unw.seq ?_
  refine Go.seq ?_
  refine Go.rX c276 rfl rfl rfl (mk [(2, bv ((decide (c_0 ≥ 97)) && (decide (c_0 ≤ 122))))] []) ?_ ?_
  · by_cases hc1 : c_0 ≥ 97
    · exact ⟨_, sq z276 (oMv rfl rfl) <| sq z276 (oBi rfl rfl rfl rfl) <| sq z276 (oMv rfl rfl) <| sgT z276 rfl rfl (iDec.2 hc1) (oMv rfl rfl) <| sgT z276 rfl rfl (iDec.2 hc1) (oBi rfl rfl rfl rfl) <| sq z276 (oPkT rfl rfl (iDec.2 hc1) rfl) <| sq z276 (oAsI rfl rfl) <| nl, (Eq.trans (b := (fun t_2_m1 : Bool => mk [(2, bv t_2_m1)] []) (decide (c_0 ≤ 122))) (by kernel_rfl) (congrArg (fun t_2_m1 : Bool => mk [(2, bv t_2_m1)] []) (by first | rfl | simp [(iDec.2 hc1)])))⟩
    · exact ⟨_, sq z276 (oMv rfl rfl) <| sq z276 (oBi rfl rfl rfl rfl) <| sq z276 (oMv rfl rfl) <| sgF rfl rfl (byF iDec hc1) rfl <| sgF rfl rfl (byF iDec hc1) rfl <| sq z276 (oPkF rfl rfl (byF iDec hc1) rfl) <| sq z276 (oAsI rfl rfl) <| nl, (Eq.trans (b := (fun t_2_m1 : Bool => mk [(2, bv t_2_m1)] []) false) (by kernel_rfl) (congrArg (fun t_2_m1 : Bool => mk [(2, bv t_2_m1)] []) (by first | rfl | simp [(byF iDec hc1)])))⟩
  · refine Unw.seq ?_
    refine Go.ret (Unw.ret ?_)
    cases h
    exact Fin_ret (fin_of rfl rF276 rfl (by kernel_rfl))
theorem L_spec_l01Digit {c_0 : Int} {r : Bool} (h : spec_l01Digit c_0 = some r) : FL Try.prog cfg 277 [.im 2 false [.sc (.int .u8 c_0)]] = some ([(false, [.im 0 (.sc (.bool r))])], []) := by
  unfold spec_l01Digit at h
  refine FL_goS (A := [(0, .v false [.im 2 (.sc (.int .u8 c_0))])]) (B := [(0, none)]) (nt := 9) rfl rfl Try.func277 rfl rfl rfl rfl ?_
  refine Go.seq ?_
  refine Go.r0 c277 rfl rfl (sq z277 (oAsI rfl rfl) <| nl) ?_
  refine Unw.seq ?_
  refine Go.seq ?_
  refine Go.rX c277 rfl rfl rfl (mk [(2, bv ((decide (c_0 ≥ 48)) && (decide (c_0 ≤ 57))))] []) ?_ ?_
  · by_cases hc1 : c_0 ≥ 48
    · exact ⟨_, sq z277 (oMv rfl rfl) <| sq z277 (oBi rfl rfl rfl rfl) <| sq z277 (oMv rfl rfl) <| sgT z277 rfl rfl (iDec.2 hc1) (oMv rfl rfl) <| sgT z277 rfl rfl (iDec.2 hc1) (oBi rfl rfl rfl rfl) <| sq z277 (oPkT rfl rfl (iDec.2 hc1) rfl) <| sq z277 (oAsI rfl rfl) <| nl, (Eq.trans (b := (fun t_2_m1 : Bool => mk [(2, bv t_2_m1)] []) (decide (c_0 ≤ 57))) (by kernel_rfl) (congrArg (fun t_2_m1 : Bool => mk [(2, bv t_2_m1)] []) (by first | rfl | simp [(iDec.2 hc1)])))⟩
    · exact ⟨_, sq z277 (oMv rfl rfl) <| sq z277 (oBi rfl rfl rfl rfl) <| sq z277 (oMv rfl rfl) <| sgF rfl rfl (byF iDec hc1) rfl <| sgF rfl rfl (byF iDec hc1) rfl <| sq z277 (oPkF rfl rfl (byF iDec hc1) rfl) <| sq z277 (oAsI rfl rfl) <| nl, (Eq.trans (b := (fun t_2_m1 : Bool => mk [(2, bv t_2_m1)] []) false) (by kernel_rfl) (congrArg (fun t_2_m1 : Bool => mk [(2, bv t_2_m1)] []) (by first | rfl | simp [(byF iDec hc1)])))⟩
  · refine Unw.seq ?_
    refine Go.ret (Unw.ret ?_)
    cases h
    exact Fin_ret (fin_of rfl rF277 rfl (by kernel_rfl))
theorem L_spec_l01Name {s_0 : ByteArray} {r : Bool} (h : spec_l01Name s_0 = some r) : FL Try.prog cfg 252 [.im 2 false [.sc (.string s_0)]] = some ([(false, [.im 0 (.sc (.bool r))])], []) := by
  unfold spec_l01Name at h
  refine FL_goS (A := [(0, .v false [.im 2 (.sc (.string s_0))])]) (B := [(0, none)]) (nt := 35) rfl rfl Try.func252 rfl rfl rfl rfl ?_
  refine Go.seq ?_
  refine Go.r0 c252 rfl rfl (sq z252 (oAsI rfl rfl) <| nl) ?_
  refine Unw.seq ?_
  refine Go.seq ?_
  refine Go.seq ?_
  obtain ⟨t_16_m1, hm16, h⟩ := bs h
  refine Go.rX c252 rfl rfl rfl (mk [(0, sv s_0), (16, bv t_16_m1)] []) ?_ ?_
  · by_cases hc1 : s_0 = (⟨#[]⟩ : ByteArray)
    · rw [if_pos hc1] at hm16
      cases hm16
      exact ⟨_, sq z252 (oMv rfl rfl) <| sq z252 (oBi rfl rfl rfl rfl) <| sq z252 (oMv rfl rfl) <| sgF rfl rfl (iStr.2 hc1) rfl <| sgF rfl rfl (iStr.2 hc1) rfl <| sgF rfl rfl (iStr.2 hc1) rfl <| sq z252 (oPkT rfl rfl (iStr.2 hc1) rfl) <| sq z252 (oMv rfl rfl) <| sgF rfl rfl rfl rfl <| sgF rfl rfl rfl rfl <| sgF rfl rfl rfl rfl <| sgF rfl rfl rfl rfl <| sq z252 (oPkT rfl rfl rfl rfl) <| nl, (by kernel_rfl)⟩
    · rw [if_neg hc1] at hm16
      by_cases hc2 : (s_0.size : Int) > 10
      · rw [if_pos hc2] at hm16
        cases hm16
        exact ⟨_, sq z252 (oMv rfl rfl) <| sq z252 (oBi rfl rfl rfl rfl) <| sq z252 (oMv rfl rfl) <| sgT z252 rfl rfl (byF iStr hc1) (oMv rfl rfl) <| sgT z252 rfl rfl (byF iStr hc1) (oLnS rfl rfl uF9 rfl) <| sgT z252 rfl rfl (byF iStr hc1) (oBi rfl rfl rfl rfl) <| sq z252 (oPkF rfl rfl (byF iStr hc1) rfl) <| sq z252 (oMv rfl rfl) <| sgF rfl rfl (iDec.2 hc2) rfl <| sgF rfl rfl (iDec.2 hc2) rfl <| sgF rfl rfl (iDec.2 hc2) rfl <| sgF rfl rfl (iDec.2 hc2) rfl <| sq z252 (oPkT rfl rfl (iDec.2 hc2) rfl) <| nl, (by kernel_rfl)⟩
      · rw [if_neg hc2] at hm16
        obtain ⟨x13, hx13, hm16⟩ := bs hm16
        obtain ⟨x14, hx14, hm16⟩ := bs hm16
        cases hm16
        exact ⟨_, sq z252 (oMv rfl rfl) <| sq z252 (oBi rfl rfl rfl rfl) <| sq z252 (oMv rfl rfl) <| sgT z252 rfl rfl (byF iStr hc1) (oMv rfl rfl) <| sgT z252 rfl rfl (byF iStr hc1) (oLnS rfl rfl uF9 rfl) <| sgT z252 rfl rfl (byF iStr hc1) (oBi rfl rfl rfl rfl) <| sq z252 (oPkF rfl rfl (byF iStr hc1) rfl) <| sq z252 (oMv rfl rfl) <| sgT z252 rfl rfl (byF iDec hc2) (oMv rfl rfl) <| sgT z252 rfl rfl (byF iDec hc2) (oIx rfl hx13 uF9 rfl rfl) <| sgT z252 rfl rfl (byF iDec hc2) (oCa (xs := [.v false [.im 0 _]]) (vs := [(false, [.im 0 _])]) (v := .v false [.im 0 _]) (L_spec_l01Small hx14) (.inl rfl) rfl kF276_5 rfl (ppC rfl pp0) rfl rfl pb0 rfl rfl rfl) <| sgT z252 rfl rfl (byF iDec hc2) (oUn rfl rfl rfl) <| sq z252 (oPkF rfl rfl (byF iDec hc2) rfl) <| nl, (by kernel_rfl)⟩
  · refine Unw.seq ?_
    by_cases hc3 : t_16_m1 = true
    · rw [if_pos hc3] at h
      refine Go.condT rfl (Iff.rfl.2 hc3) ?_
      refine Go.seq ?_
      refine Go.r0 c252 rfl rfl (sq z252 (oAsI rfl rfl) <| nl) ?_
      refine Unw.seq ?_
      refine Go.ret (Unw.ret ?_)
      cases h
      exact Fin_ret (fin_of rfl rF252 rfl (by kernel_rfl))
    · rw [if_neg hc3] at h
      refine Go.condF rfl (byF Iff.rfl hc3) ?_
      refine Go.skip ?_
      refine Unw.seq ?_
      refine Go.seq ?_
      refine Go.seq ?_
      refine Go.r0 c252 rfl rfl (sq z252 (oAsI rfl rfl) <| nl) ?_
      refine Unw.seq ?_
      refine Go.block ?_
      obtain ⟨o, hl, h⟩ := bs h
      refine Go.lp c252 rfl _ (fun (i_3_l4 : Int) => mk [(0, sv s_0), (3, iv i_3_l4)] []) (fun (o : (Unit ⊕ Bool)) (p : Ex × St) => match o with | (.inl _) => p.1 = .exit 0 ∧ p.2.norm ([], []) = mk [] [] | (.inr r2) => p.1 = .ret ∧ fin Try.prog cfg 252 Try.f252 [.im 2 false [.sc (.string s_0)]] p.2 = some ([(false, [.im 0 (.sc (.bool r2))])], [])) hl (by kernel_rfl) ?_ ?_ ?_
      · intro o p hp e
        rcases o with u | r2 <;> exact nomatch (hp.1.symm.trans e)
      · rintro i_3_l4 o h
        unfold spec_l01Name_l4 at h
        refine Go.seq ?_
        refine Go.seq ?_
        refine Go.r0 c252 rfl rfl (sq z252 (oMv rfl rfl) <| sq z252 (oMv rfl rfl) <| sq z252 (oLnS rfl rfl uF9 rfl) <| sq z252 (oBi rfl rfl rfl rfl) <| nl) ?_
        refine Unw.seq ?_
        by_cases hc12 : i_3_l4 < (s_0.size : Int)
        · rw [if_pos hc12] at h
          refine Go.condT rfl (iDec.2 hc12) ?_
          refine Go.skip ?_
          refine Unw.seq ?_
          refine Go.seq ?_
          refine Go.block ?_
          refine Go.seq ?_
          obtain ⟨x25, hx25, h⟩ := bs h
          obtain ⟨x26, hx26, h⟩ := bs h
          obtain ⟨t_34_m6, hm15, h⟩ := bs h
          refine Go.rX c252 rfl rfl rfl (mk [(0, sv s_0), (3, iv i_3_l4), (34, bv t_34_m6)] []) ?_ ?_
          · by_cases hc13 : x26 = true
            · rw [if_pos hc13] at hm15
              cases hm15
              exact ⟨_, sq z252 (oMv rfl rfl) <| sq z252 (oMv rfl rfl) <| sq z252 (oIx rfl hx25 uF9 rfl rfl) <| sq z252 (oCa (xs := [.v false [.im 0 _]]) (vs := [(false, [.im 0 _])]) (v := .v false [.im 0 _]) (L_spec_l01Small hx26) (.inl rfl) rfl kF276_5 rfl (ppC rfl pp0) rfl rfl pb0 rfl rfl rfl) <| sq z252 (oUn rfl rfl rfl) <| sq z252 (oMv rfl rfl) <| sgF rfl rfl (nF (Iff.rfl.2 hc13)) rfl <| sgF rfl rfl (nF (Iff.rfl.2 hc13)) rfl <| sgF rfl rfl (nF (Iff.rfl.2 hc13)) rfl <| sgF rfl rfl (nF (Iff.rfl.2 hc13)) rfl <| sgF rfl rfl (nF (Iff.rfl.2 hc13)) rfl <| sq z252 (oPkF rfl rfl (nF (Iff.rfl.2 hc13)) rfl) <| nl, (by kernel_rfl)⟩
            · rw [if_neg hc13] at hm15
              obtain ⟨x31, hx31, hm15⟩ := bs hm15
              obtain ⟨x32, hx32, hm15⟩ := bs hm15
              cases hm15
              exact ⟨_, sq z252 (oMv rfl rfl) <| sq z252 (oMv rfl rfl) <| sq z252 (oIx rfl hx25 uF9 rfl rfl) <| sq z252 (oCa (xs := [.v false [.im 0 _]]) (vs := [(false, [.im 0 _])]) (v := .v false [.im 0 _]) (L_spec_l01Small hx26) (.inl rfl) rfl kF276_5 rfl (ppC rfl pp0) rfl rfl pb0 rfl rfl rfl) <| sq z252 (oUn rfl rfl rfl) <| sq z252 (oMv rfl rfl) <| sgT z252 rfl rfl (nT (byF Iff.rfl hc13)) (oMv rfl rfl) <| sgT z252 rfl rfl (nT (byF Iff.rfl hc13)) (oMv rfl rfl) <| sgT z252 rfl rfl (nT (byF Iff.rfl hc13)) (oIx rfl hx31 uF9 rfl rfl) <| sgT z252 rfl rfl (nT (byF Iff.rfl hc13)) (oCa (xs := [.v false [.im 0 _]]) (vs := [(false, [.im 0 _])]) (v := .v false [.im 0 _]) (L_spec_l01Digit hx32) (.inl rfl) rfl kF277_5 rfl (ppC rfl pp0) rfl rfl pb0 rfl rfl rfl) <| sgT z252 rfl rfl (nT (byF Iff.rfl hc13)) (oUn rfl rfl rfl) <| sq z252 (oPkT rfl rfl (nT (byF Iff.rfl hc13)) rfl) <| nl, (by kernel_rfl)⟩
          · refine Unw.seq ?_
            by_cases hc14 : t_34_m6 = true
            · rw [if_pos hc14] at h
              refine Go.condT rfl (Iff.rfl.2 hc14) ?_
              refine Go.seq ?_
              refine Go.r0 c252 rfl rfl (sq z252 (oAsI rfl rfl) <| nl) ?_
              refine Unw.seq ?_
              refine Go.ret (Unw.ret ?_)
              cases h
              exact ⟨rfl, (fin_of rfl rF252 rfl (by kernel_rfl))⟩
            · rw [if_neg hc14] at h
              refine Go.condF rfl (byF Iff.rfl hc14) ?_
              refine Go.skip ?_
              refine Unw.blk ?_
              refine Unw.seq ?_
              refine Go.r0 c252 rfl rfl (sq z252 (oMv rfl rfl) <| sq z252 (oBi rfl rfl rfl rfl) <| sq z252 (oAsI rfl rfl) <| nl) ?_
              refine Unw.nil ?_
              cases h
              exact ⟨rfl, (by kernel_rfl)⟩
        · rw [if_neg hc12] at h
          refine Go.condF rfl (byF iDec hc12) ?_
          refine Go.exit ?_
          refine Unw.seqx ?_
          refine Unw.nil ?_
          cases h
          exact ⟨rfl, (by kernel_rfl)⟩
      · rintro ⟨e, st⟩ hp
        rcases o with u | r2
        · dsimp only at h
          obtain ⟨he, hst⟩ := hp
          obtain rfl : e = .exit 0 := he
          refine Unw.blkx ?_
          refine Unw.seq ?_
          refine Go.seq ?_
          refine Go.r1 c252 rfl rfl hst (sq z252 (oAsI rfl rfl) <| nl) ?_
          refine Unw.seq ?_
          refine Go.ret (Unw.ret ?_)
          cases h
          exact Fin_ret (fin_of rfl rF252 rfl (by kernel_rfl))
        · dsimp only at h
          obtain ⟨he, hfin⟩ := hp
          obtain rfl : e = .ret := he
          cases h
          exact Unw.ret (Fin_ret hfin)
theorem L_spec_l00In {n_0 : Int} {low_1 : Int} {high_2 : Int} {r : Bool} (h : spec_l00In n_0 low_1 high_2 = some r) : FL Try.prog cfg 102 [.im 2 false [.sc (.int .i64 n_0)], .im 2 false [.sc (.int .i64 low_1)], .im 2 false [.sc (.int .i64 high_2)]] = some ([(false, [.im 0 (.sc (.bool r))])], []) := by
  unfold spec_l00In at h
  refine FL_goS (A := [(0, .v false [.im 2 (.sc (.int .i64 n_0))]), (1, .v false [.im 2 (.sc (.int .i64 low_1))]), (2, .v false [.im 2 (.sc (.int .i64 high_2))])]) (B := [(0, none), (1, none), (2, none)]) (nt := 15) rfl rfl Try.func102 rfl rfl rfl rfl ?_
  refine Go.seq ?_
  refine Go.r0 c102 rfl rfl (sq z102 (oAsI rfl rfl) <| nl) ?_
  refine Unw.seq ?_
  refine Go.seq ?_
  refine Go.rX c102 rfl rfl rfl (mk [(6, bv ((decide (n_0 ≥ low_1)) && (decide (n_0 ≤ high_2))))] []) ?_ ?_
  · by_cases hc1 : n_0 ≥ low_1
    · exact ⟨_, sq z102 (oMv rfl rfl) <| sq z102 (oMv rfl rfl) <| sq z102 (oBi rfl rfl rfl rfl) <| sq z102 (oMv rfl rfl) <| sgT z102 rfl rfl (iDec.2 hc1) (oMv rfl rfl) <| sgT z102 rfl rfl (iDec.2 hc1) (oMv rfl rfl) <| sgT z102 rfl rfl (iDec.2 hc1) (oBi rfl rfl rfl rfl) <| sq z102 (oPkT rfl rfl (iDec.2 hc1) rfl) <| sq z102 (oAsI rfl rfl) <| nl, (Eq.trans (b := (fun t_6_m1 : Bool => mk [(6, bv t_6_m1)] []) (decide (n_0 ≤ high_2))) (by kernel_rfl) (congrArg (fun t_6_m1 : Bool => mk [(6, bv t_6_m1)] []) (by first | rfl | simp [(iDec.2 hc1)])))⟩
    · exact ⟨_, sq z102 (oMv rfl rfl) <| sq z102 (oMv rfl rfl) <| sq z102 (oBi rfl rfl rfl rfl) <| sq z102 (oMv rfl rfl) <| sgF rfl rfl (byF iDec hc1) rfl <| sgF rfl rfl (byF iDec hc1) rfl <| sgF rfl rfl (byF iDec hc1) rfl <| sq z102 (oPkF rfl rfl (byF iDec hc1) rfl) <| sq z102 (oAsI rfl rfl) <| nl, (Eq.trans (b := (fun t_6_m1 : Bool => mk [(6, bv t_6_m1)] []) false) (by kernel_rfl) (congrArg (fun t_6_m1 : Bool => mk [(6, bv t_6_m1)] []) (by first | rfl | simp [(byF iDec hc1)])))⟩
  · refine Unw.seq ?_
    refine Go.ret (Unw.ret ?_)
    cases h
    exact Fin_ret (fin_of rfl rF102 rfl (by kernel_rfl))
theorem L_spec_l16Ok {b_0 : S_Blade} {r : Bool} (h : spec_l16Ok b_0 = some r) : FL Try.prog cfg 194 [.im 2 false [.cp [.sc (.string b_0.Name), .sc (.int .i64 b_0.Life), .sc (.int .i64 b_0.Price), .sc (.int .i64 b_0.Speed)] 0]] = some ([(false, [.im 0 (.sc (.bool r))])], []) := by
  unfold spec_l16Ok at h
  refine FL_goS (A := [(0, .v false [.im 2 (.cp [.sc (.string b_0.Name), .sc (.int .i64 b_0.Life), .sc (.int .i64 b_0.Price), .sc (.int .i64 b_0.Speed)] 0)])]) (B := [(0, none)]) (nt := 29) rfl rfl Try.func194 rfl rfl rfl rfl ?_
  refine Go.seq ?_
  refine Go.r0 c194 rfl rfl (sq z194 (oAsI rfl rfl) <| nl) ?_
  refine Unw.seq ?_
  refine Go.seq ?_
  obtain ⟨x7, hx7, h⟩ := bs h
  obtain ⟨t_2_m1, hm4, h⟩ := bs h
  refine Go.rX c194 rfl rfl rfl (mk [(2, bv t_2_m1)] []) ?_ ?_
  · by_cases hc1 : x7 = true
    · rw [if_pos hc1] at hm4
      obtain ⟨x13, hx13, hm4⟩ := bs hm4
      by_cases hc2 : x13 = true
      · rw [if_pos hc2] at hm4
        obtain ⟨x20, hx20, hm4⟩ := bs hm4
        by_cases hc3 : x20 = true
        · rw [if_pos hc3] at hm4
          obtain ⟨x27, hx27, hm4⟩ := bs hm4
          cases hm4
          exact ⟨_, sq z194 (oMv rfl rfl) <| sq z194 (oNl rfl rfl rfl) <| sq z194 (oFA (r' := .im 2 _) rfl fF54_0 rfl rfl) <| sq z194 (oLd (cs := [.im 2 _]) rfl tF9 rfl rfl) <| sq z194 (oCa (xs := [.v false [.im 2 _]]) (vs := [(false, [.im 0 _])]) (v := .v false [.im 0 _]) (L_spec_l01Name hx7) (.inl rfl) rfl kF252_9 rfl (ppC rfl pp0) rfl rfl pb0 rfl rfl rfl) <| sq z194 (oMv rfl rfl) <| sgT z194 rfl rfl (Iff.rfl.2 hc1) (oMv rfl rfl) <| sgT z194 rfl rfl (Iff.rfl.2 hc1) (oNl rfl rfl rfl) <| sgT z194 rfl rfl (Iff.rfl.2 hc1) (oFA (r' := .im 2 _) rfl fF54_1 rfl rfl) <| sgT z194 rfl rfl (Iff.rfl.2 hc1) (oLd (cs := [.im 2 _]) rfl tF2 rfl rfl) <| sgT z194 rfl rfl (Iff.rfl.2 hc1) (oCa (xs := [.v false [.im 2 _], .v false [.im 0 _], .v false [.im 0 _]]) (vs := [(false, [.im 0 _])]) (v := .v false [.im 0 _]) (L_spec_l00In hx13) (.inl rfl) rfl kF102_2_2_2 rfl (ppC rfl (ppC rfl (ppC rfl pp0))) rfl rfl pb0 rfl rfl rfl) <| sq z194 (oPkT rfl rfl (Iff.rfl.2 hc1) rfl) <| sq z194 (oMv rfl rfl) <| sgT z194 rfl rfl (Iff.rfl.2 hc2) (oMv rfl rfl) <| sgT z194 rfl rfl (Iff.rfl.2 hc2) (oNl rfl rfl rfl) <| sgT z194 rfl rfl (Iff.rfl.2 hc2) (oFA (r' := .im 2 _) rfl fF54_2 rfl rfl) <| sgT z194 rfl rfl (Iff.rfl.2 hc2) (oLd (cs := [.im 2 _]) rfl tF2 rfl rfl) <| sgT z194 rfl rfl (Iff.rfl.2 hc2) (oCa (xs := [.v false [.im 2 _], .v false [.im 0 _], .v false [.im 0 _]]) (vs := [(false, [.im 0 _])]) (v := .v false [.im 0 _]) (L_spec_l00In hx20) (.inl rfl) rfl kF102_2_2_2 rfl (ppC rfl (ppC rfl (ppC rfl pp0))) rfl rfl pb0 rfl rfl rfl) <| sq z194 (oPkT rfl rfl (Iff.rfl.2 hc2) rfl) <| sq z194 (oMv rfl rfl) <| sgT z194 rfl rfl (Iff.rfl.2 hc3) (oMv rfl rfl) <| sgT z194 rfl rfl (Iff.rfl.2 hc3) (oNl rfl rfl rfl) <| sgT z194 rfl rfl (Iff.rfl.2 hc3) (oFA (r' := .im 2 _) rfl fF54_3 rfl rfl) <| sgT z194 rfl rfl (Iff.rfl.2 hc3) (oLd (cs := [.im 2 _]) rfl tF2 rfl rfl) <| sgT z194 rfl rfl (Iff.rfl.2 hc3) (oCa (xs := [.v false [.im 2 _], .v false [.im 0 _], .v false [.im 0 _]]) (vs := [(false, [.im 0 _])]) (v := .v false [.im 0 _]) (L_spec_l00In hx27) (.inl rfl) rfl kF102_2_2_2 rfl (ppC rfl (ppC rfl (ppC rfl pp0))) rfl rfl pb0 rfl rfl rfl) <| sq z194 (oPkT rfl rfl (Iff.rfl.2 hc3) rfl) <| sq z194 (oAsI rfl rfl) <| nl, (by kernel_rfl)⟩
        · rw [if_neg hc3] at hm4
          cases hm4
          exact ⟨_, sq z194 (oMv rfl rfl) <| sq z194 (oNl rfl rfl rfl) <| sq z194 (oFA (r' := .im 2 _) rfl fF54_0 rfl rfl) <| sq z194 (oLd (cs := [.im 2 _]) rfl tF9 rfl rfl) <| sq z194 (oCa (xs := [.v false [.im 2 _]]) (vs := [(false, [.im 0 _])]) (v := .v false [.im 0 _]) (L_spec_l01Name hx7) (.inl rfl) rfl kF252_9 rfl (ppC rfl pp0) rfl rfl pb0 rfl rfl rfl) <| sq z194 (oMv rfl rfl) <| sgT z194 rfl rfl (Iff.rfl.2 hc1) (oMv rfl rfl) <| sgT z194 rfl rfl (Iff.rfl.2 hc1) (oNl rfl rfl rfl) <| sgT z194 rfl rfl (Iff.rfl.2 hc1) (oFA (r' := .im 2 _) rfl fF54_1 rfl rfl) <| sgT z194 rfl rfl (Iff.rfl.2 hc1) (oLd (cs := [.im 2 _]) rfl tF2 rfl rfl) <| sgT z194 rfl rfl (Iff.rfl.2 hc1) (oCa (xs := [.v false [.im 2 _], .v false [.im 0 _], .v false [.im 0 _]]) (vs := [(false, [.im 0 _])]) (v := .v false [.im 0 _]) (L_spec_l00In hx13) (.inl rfl) rfl kF102_2_2_2 rfl (ppC rfl (ppC rfl (ppC rfl pp0))) rfl rfl pb0 rfl rfl rfl) <| sq z194 (oPkT rfl rfl (Iff.rfl.2 hc1) rfl) <| sq z194 (oMv rfl rfl) <| sgT z194 rfl rfl (Iff.rfl.2 hc2) (oMv rfl rfl) <| sgT z194 rfl rfl (Iff.rfl.2 hc2) (oNl rfl rfl rfl) <| sgT z194 rfl rfl (Iff.rfl.2 hc2) (oFA (r' := .im 2 _) rfl fF54_2 rfl rfl) <| sgT z194 rfl rfl (Iff.rfl.2 hc2) (oLd (cs := [.im 2 _]) rfl tF2 rfl rfl) <| sgT z194 rfl rfl (Iff.rfl.2 hc2) (oCa (xs := [.v false [.im 2 _], .v false [.im 0 _], .v false [.im 0 _]]) (vs := [(false, [.im 0 _])]) (v := .v false [.im 0 _]) (L_spec_l00In hx20) (.inl rfl) rfl kF102_2_2_2 rfl (ppC rfl (ppC rfl (ppC rfl pp0))) rfl rfl pb0 rfl rfl rfl) <| sq z194 (oPkT rfl rfl (Iff.rfl.2 hc2) rfl) <| sq z194 (oMv rfl rfl) <| sgF rfl rfl (byF Iff.rfl hc3) rfl <| sgF rfl rfl (byF Iff.rfl hc3) rfl <| sgF rfl rfl (byF Iff.rfl hc3) rfl <| sgF rfl rfl (byF Iff.rfl hc3) rfl <| sgF rfl rfl (byF Iff.rfl hc3) rfl <| sq z194 (oPkF rfl rfl (byF Iff.rfl hc3) rfl) <| sq z194 (oAsI rfl rfl) <| nl, (by kernel_rfl)⟩
      · rw [if_neg hc2] at hm4
        cases hm4
        exact ⟨_, sq z194 (oMv rfl rfl) <| sq z194 (oNl rfl rfl rfl) <| sq z194 (oFA (r' := .im 2 _) rfl fF54_0 rfl rfl) <| sq z194 (oLd (cs := [.im 2 _]) rfl tF9 rfl rfl) <| sq z194 (oCa (xs := [.v false [.im 2 _]]) (vs := [(false, [.im 0 _])]) (v := .v false [.im 0 _]) (L_spec_l01Name hx7) (.inl rfl) rfl kF252_9 rfl (ppC rfl pp0) rfl rfl pb0 rfl rfl rfl) <| sq z194 (oMv rfl rfl) <| sgT z194 rfl rfl (Iff.rfl.2 hc1) (oMv rfl rfl) <| sgT z194 rfl rfl (Iff.rfl.2 hc1) (oNl rfl rfl rfl) <| sgT z194 rfl rfl (Iff.rfl.2 hc1) (oFA (r' := .im 2 _) rfl fF54_1 rfl rfl) <| sgT z194 rfl rfl (Iff.rfl.2 hc1) (oLd (cs := [.im 2 _]) rfl tF2 rfl rfl) <| sgT z194 rfl rfl (Iff.rfl.2 hc1) (oCa (xs := [.v false [.im 2 _], .v false [.im 0 _], .v false [.im 0 _]]) (vs := [(false, [.im 0 _])]) (v := .v false [.im 0 _]) (L_spec_l00In hx13) (.inl rfl) rfl kF102_2_2_2 rfl (ppC rfl (ppC rfl (ppC rfl pp0))) rfl rfl pb0 rfl rfl rfl) <| sq z194 (oPkT rfl rfl (Iff.rfl.2 hc1) rfl) <| sq z194 (oMv rfl rfl) <| sgF rfl rfl (byF Iff.rfl hc2) rfl <| sgF rfl rfl (byF Iff.rfl hc2) rfl <| sgF rfl rfl (byF Iff.rfl hc2) rfl <| sgF rfl rfl (byF Iff.rfl hc2) rfl <| sgF rfl rfl (byF Iff.rfl hc2) rfl <| sq z194 (oPkF rfl rfl (byF Iff.rfl hc2) rfl) <| sq z194 (oMv rfl rfl) <| sgF rfl rfl rfl rfl <| sgF rfl rfl rfl rfl <| sgF rfl rfl rfl rfl <| sgF rfl rfl rfl rfl <| sgF rfl rfl rfl rfl <| sq z194 (oPkF rfl rfl rfl rfl) <| sq z194 (oAsI rfl rfl) <| nl, (by kernel_rfl)⟩
    · rw [if_neg hc1] at hm4
      cases hm4
      exact ⟨_, sq z194 (oMv rfl rfl) <| sq z194 (oNl rfl rfl rfl) <| sq z194 (oFA (r' := .im 2 _) rfl fF54_0 rfl rfl) <| sq z194 (oLd (cs := [.im 2 _]) rfl tF9 rfl rfl) <| sq z194 (oCa (xs := [.v false [.im 2 _]]) (vs := [(false, [.im 0 _])]) (v := .v false [.im 0 _]) (L_spec_l01Name hx7) (.inl rfl) rfl kF252_9 rfl (ppC rfl pp0) rfl rfl pb0 rfl rfl rfl) <| sq z194 (oMv rfl rfl) <| sgF rfl rfl (byF Iff.rfl hc1) rfl <| sgF rfl rfl (byF Iff.rfl hc1) rfl <| sgF rfl rfl (byF Iff.rfl hc1) rfl <| sgF rfl rfl (byF Iff.rfl hc1) rfl <| sgF rfl rfl (byF Iff.rfl hc1) rfl <| sq z194 (oPkF rfl rfl (byF Iff.rfl hc1) rfl) <| sq z194 (oMv rfl rfl) <| sgF rfl rfl rfl rfl <| sgF rfl rfl rfl rfl <| sgF rfl rfl rfl rfl <| sgF rfl rfl rfl rfl <| sgF rfl rfl rfl rfl <| sq z194 (oPkF rfl rfl rfl rfl) <| sq z194 (oMv rfl rfl) <| sgF rfl rfl rfl rfl <| sgF rfl rfl rfl rfl <| sgF rfl rfl rfl rfl <| sgF rfl rfl rfl rfl <| sgF rfl rfl rfl rfl <| sq z194 (oPkF rfl rfl rfl rfl) <| sq z194 (oAsI rfl rfl) <| nl, (by kernel_rfl)⟩
  · refine Unw.seq ?_
    refine Go.ret (Unw.ret ?_)
    cases h
    exact Fin_ret (fin_of rfl rF194 rfl (by kernel_rfl))
theorem L_spec_l16One {c_0 : S_Cutting} {r : Bool} (h : spec_l16One c_0 = some r) : FL Try.prog cfg 242 [.im 2 false [.cp [.sc (.string c_0.Name), .sc (.int .i64 c_0.Length), .sc (.int .i64 c_0.Hardness)] 0]] = some ([(false, [.im 0 (.sc (.bool r))])], []) := by
  unfold spec_l16One at h
  refine FL_goS (A := [(0, .v false [.im 2 (.cp [.sc (.string c_0.Name), .sc (.int .i64 c_0.Length), .sc (.int .i64 c_0.Hardness)] 0)])]) (B := [(0, none)]) (nt := 22) rfl rfl Try.func242 rfl rfl rfl rfl ?_
  refine Go.seq ?_
  refine Go.r0 c242 rfl rfl (sq z242 (oAsI rfl rfl) <| nl) ?_
  refine Unw.seq ?_
  refine Go.seq ?_
  obtain ⟨x7, hx7, h⟩ := bs h
  obtain ⟨t_2_m1, hm3, h⟩ := bs h
  refine Go.rX c242 rfl rfl rfl (mk [(2, bv t_2_m1)] []) ?_ ?_
  · by_cases hc1 : x7 = true
    · rw [if_pos hc1] at hm3
      obtain ⟨x13, hx13, hm3⟩ := bs hm3
      by_cases hc2 : x13 = true
      · rw [if_pos hc2] at hm3
        obtain ⟨x20, hx20, hm3⟩ := bs hm3
        cases hm3
        exact ⟨_, sq z242 (oMv rfl rfl) <| sq z242 (oNl rfl rfl rfl) <| sq z242 (oFA (r' := .im 2 _) rfl fF163_0 rfl rfl) <| sq z242 (oLd (cs := [.im 2 _]) rfl tF9 rfl rfl) <| sq z242 (oCa (xs := [.v false [.im 2 _]]) (vs := [(false, [.im 0 _])]) (v := .v false [.im 0 _]) (L_spec_l01Name hx7) (.inl rfl) rfl kF252_9 rfl (ppC rfl pp0) rfl rfl pb0 rfl rfl rfl) <| sq z242 (oMv rfl rfl) <| sgT z242 rfl rfl (Iff.rfl.2 hc1) (oMv rfl rfl) <| sgT z242 rfl rfl (Iff.rfl.2 hc1) (oNl rfl rfl rfl) <| sgT z242 rfl rfl (Iff.rfl.2 hc1) (oFA (r' := .im 2 _) rfl fF163_1 rfl rfl) <| sgT z242 rfl rfl (Iff.rfl.2 hc1) (oLd (cs := [.im 2 _]) rfl tF2 rfl rfl) <| sgT z242 rfl rfl (Iff.rfl.2 hc1) (oCa (xs := [.v false [.im 2 _], .v false [.im 0 _], .v false [.im 0 _]]) (vs := [(false, [.im 0 _])]) (v := .v false [.im 0 _]) (L_spec_l00In hx13) (.inl rfl) rfl kF102_2_2_2 rfl (ppC rfl (ppC rfl (ppC rfl pp0))) rfl rfl pb0 rfl rfl rfl) <| sq z242 (oPkT rfl rfl (Iff.rfl.2 hc1) rfl) <| sq z242 (oMv rfl rfl) <| sgT z242 rfl rfl (Iff.rfl.2 hc2) (oMv rfl rfl) <| sgT z242 rfl rfl (Iff.rfl.2 hc2) (oNl rfl rfl rfl) <| sgT z242 rfl rfl (Iff.rfl.2 hc2) (oFA (r' := .im 2 _) rfl fF163_2 rfl rfl) <| sgT z242 rfl rfl (Iff.rfl.2 hc2) (oLd (cs := [.im 2 _]) rfl tF2 rfl rfl) <| sgT z242 rfl rfl (Iff.rfl.2 hc2) (oCa (xs := [.v false [.im 2 _], .v false [.im 0 _], .v false [.im 0 _]]) (vs := [(false, [.im 0 _])]) (v := .v false [.im 0 _]) (L_spec_l00In hx20) (.inl rfl) rfl kF102_2_2_2 rfl (ppC rfl (ppC rfl (ppC rfl pp0))) rfl rfl pb0 rfl rfl rfl) <| sq z242 (oPkT rfl rfl (Iff.rfl.2 hc2) rfl) <| sq z242 (oAsI rfl rfl) <| nl, (by kernel_rfl)⟩
      · rw [if_neg hc2] at hm3
        cases hm3
        exact ⟨_, sq z242 (oMv rfl rfl) <| sq z242 (oNl rfl rfl rfl) <| sq z242 (oFA (r' := .im 2 _) rfl fF163_0 rfl rfl) <| sq z242 (oLd (cs := [.im 2 _]) rfl tF9 rfl rfl) <| sq z242 (oCa (xs := [.v false [.im 2 _]]) (vs := [(false, [.im 0 _])]) (v := .v false [.im 0 _]) (L_spec_l01Name hx7) (.inl rfl) rfl kF252_9 rfl (ppC rfl pp0) rfl rfl pb0 rfl rfl rfl) <| sq z242 (oMv rfl rfl) <| sgT z242 rfl rfl (Iff.rfl.2 hc1) (oMv rfl rfl) <| sgT z242 rfl rfl (Iff.rfl.2 hc1) (oNl rfl rfl rfl) <| sgT z242 rfl rfl (Iff.rfl.2 hc1) (oFA (r' := .im 2 _) rfl fF163_1 rfl rfl) <| sgT z242 rfl rfl (Iff.rfl.2 hc1) (oLd (cs := [.im 2 _]) rfl tF2 rfl rfl) <| sgT z242 rfl rfl (Iff.rfl.2 hc1) (oCa (xs := [.v false [.im 2 _], .v false [.im 0 _], .v false [.im 0 _]]) (vs := [(false, [.im 0 _])]) (v := .v false [.im 0 _]) (L_spec_l00In hx13) (.inl rfl) rfl kF102_2_2_2 rfl (ppC rfl (ppC rfl (ppC rfl pp0))) rfl rfl pb0 rfl rfl rfl) <| sq z242 (oPkT rfl rfl (Iff.rfl.2 hc1) rfl) <| sq z242 (oMv rfl rfl) <| sgF rfl rfl (byF Iff.rfl hc2) rfl <| sgF rfl rfl (byF Iff.rfl hc2) rfl <| sgF rfl rfl (byF Iff.rfl hc2) rfl <| sgF rfl rfl (byF Iff.rfl hc2) rfl <| sgF rfl rfl (byF Iff.rfl hc2) rfl <| sq z242 (oPkF rfl rfl (byF Iff.rfl hc2) rfl) <| sq z242 (oAsI rfl rfl) <| nl, (by kernel_rfl)⟩
    · rw [if_neg hc1] at hm3
      cases hm3
      exact ⟨_, sq z242 (oMv rfl rfl) <| sq z242 (oNl rfl rfl rfl) <| sq z242 (oFA (r' := .im 2 _) rfl fF163_0 rfl rfl) <| sq z242 (oLd (cs := [.im 2 _]) rfl tF9 rfl rfl) <| sq z242 (oCa (xs := [.v false [.im 2 _]]) (vs := [(false, [.im 0 _])]) (v := .v false [.im 0 _]) (L_spec_l01Name hx7) (.inl rfl) rfl kF252_9 rfl (ppC rfl pp0) rfl rfl pb0 rfl rfl rfl) <| sq z242 (oMv rfl rfl) <| sgF rfl rfl (byF Iff.rfl hc1) rfl <| sgF rfl rfl (byF Iff.rfl hc1) rfl <| sgF rfl rfl (byF Iff.rfl hc1) rfl <| sgF rfl rfl (byF Iff.rfl hc1) rfl <| sgF rfl rfl (byF Iff.rfl hc1) rfl <| sq z242 (oPkF rfl rfl (byF Iff.rfl hc1) rfl) <| sq z242 (oMv rfl rfl) <| sgF rfl rfl rfl rfl <| sgF rfl rfl rfl rfl <| sgF rfl rfl rfl rfl <| sgF rfl rfl rfl rfl <| sgF rfl rfl rfl rfl <| sq z242 (oPkF rfl rfl rfl rfl) <| sq z242 (oAsI rfl rfl) <| nl, (by kernel_rfl)⟩
  · refine Unw.seq ?_
    refine Go.ret (Unw.ret ?_)
    cases h
    exact Fin_ret (fin_of rfl rF242 rfl (by kernel_rfl))
theorem L_spec_l16List {list_0 : (List S_Cutting)} {r : Bool} (h : spec_l16List list_0 = some r) : FL Try.prog cfg 195 [.im 2 false [.row 3 (List.map e_S_Cutting list_0)]] = some ([(false, [.im 0 (.sc (.bool r))])], []) := by
  unfold spec_l16List at h
  refine FL_goS (A := [(0, .v false [.im 2 (.row 3 (List.map e_S_Cutting list_0))])]) (B := [(0, none)]) (nt := 36) rfl rfl Try.func195 rfl rfl rfl rfl ?_
  refine Go.seq ?_
  refine Go.r0 c195 rfl rfl (sq z195 (oAsI rfl rfl) <| nl) ?_
  refine Unw.seq ?_
  refine Go.seq ?_
  refine Go.seq ?_
  refine Go.r0 c195 rfl rfl (sq z195 (oAsI rfl rfl) <| nl) ?_
  refine Unw.seq ?_
  refine Go.block ?_
  obtain ⟨o, hl, h⟩ := bs h
  refine Go.lp c195 rfl _ (fun (i_3_l2 : Int) => mk [(0, .v false [.im 2 (.row 3 (List.map e_S_Cutting list_0))]), (3, iv i_3_l2)] []) (fun (o : (Unit ⊕ Bool)) (p : Ex × St) => match o with | (.inl _) => p.1 = .exit 0 ∧ p.2.norm ([0], []) = mk [(0, .v false [.im 2 (.row 3 (List.map e_S_Cutting list_0))])] [] | (.inr r2) => p.1 = .ret ∧ fin Try.prog cfg 195 Try.f195 [.im 2 false [.row 3 (List.map e_S_Cutting list_0)]] p.2 = some ([(false, [.im 0 (.sc (.bool r2))])], [])) hl (by kernel_rfl) ?_ ?_ ?_
  · intro o p hp e
    rcases o with u | r2 <;> exact nomatch (hp.1.symm.trans e)
  · rintro i_3_l2 o h
    unfold spec_l16List_l2 at h
    refine Go.seq ?_
    refine Go.seq ?_
    refine Go.r0 c195 rfl rfl (sq z195 (oMv rfl rfl) <| sq z195 (oMv rfl rfl) <| sq z195 (oLnI rfl rfl uF56 rfl) <| sq z195 (oBi rfl rfl rfl rfl) <| nl) ?_
    refine Unw.seq ?_
    by_cases hc11 : i_3_l2 < (list_0.length : Int)
    · rw [if_pos hc11] at h
      refine Go.condT rfl (iDec.2 hc11) ?_
      refine Go.skip ?_
      refine Unw.seq ?_
      refine Go.seq ?_
      refine Go.block ?_
      refine Go.seq ?_
      obtain ⟨x12, hx12, h⟩ := bs h
      obtain ⟨x13, hx13, h⟩ := bs h
      obtain ⟨t_32_m4, hm15, h⟩ := bs h
      refine Go.dr c195 rfl rfl rfl rfl (mk [(0, .v false [.im 2 (.row 3 (List.map e_S_Cutting list_0))]), (3, iv i_3_l2), (32, bv t_32_m4)] []) ?_ ?_
      · by_cases hc12 : x13 = true
        · rw [if_pos hc12] at hm15
          by_cases hc13 : i_3_l2 > 0
          · rw [if_pos hc13] at hm15
            obtain ⟨x22, hx22, hm15⟩ := bs hm15
            obtain ⟨x27, hx27, hm15⟩ := bs hm15
            cases hm15
            exact sT rfl (dN z195 rfl (oMv rfl rfl)) <| sT rfl (dN z195 rfl (oMv rfl rfl)) <| sT rfl (dN z195 rfl (oIAI rfl hx12 sF56 rfl rfl)) <| sS (dN z195 rfl (oCa (xs := [.v false [.im 2 _]]) (vs := [(false, [.im 0 _])]) (v := .v false [.im 0 _]) (L_spec_l16One hx13) (.inl rfl) rfl kF242_291 rfl (ppC rfl pp0) rfl rfl pb0 rfl rfl rfl)) trivial (sT rfl (dN z195 rfl (oUn rfl rfl rfl)) <| sT rfl (dN z195 rfl (oMv rfl rfl)) <| sT rfl (dT z195 rfl rfl rfl (nF (Iff.rfl.2 hc12)) (oMv rfl rfl)) <| sT rfl (dT z195 rfl rfl rfl (nF (Iff.rfl.2 hc12)) (oBi rfl rfl rfl rfl)) <| sT rfl (dT z195 rfl rfl rfl (nF (Iff.rfl.2 hc12)) (oMv rfl rfl)) <| sT rfl (dT z195 rfl rfl rfl (iDec.2 hc13) (oMv rfl rfl)) <| sT rfl (dT z195 rfl rfl rfl (iDec.2 hc13) (oMv rfl rfl)) <| sT rfl (dT z195 rfl rfl rfl (iDec.2 hc13) (oBi rfl rfl rfl rfl)) <| sT rfl (dT z195 rfl rfl rfl (iDec.2 hc13) (oIAI rfl hx22 sF56 rfl rfl)) <| sT rfl (dT z195 rfl rfl rfl (iDec.2 hc13) (oFA (r' := .im 2 _) rfl fF163_0 rfl rfl)) <| sT rfl (dT z195 rfl rfl rfl (iDec.2 hc13) (oLd (cs := [.im 2 _]) rfl tF9 rfl rfl)) <| sT rfl (dT z195 rfl rfl rfl (iDec.2 hc13) (oMv rfl rfl)) <| sT rfl (dT z195 rfl rfl rfl (iDec.2 hc13) (oMv rfl rfl)) <| sT rfl (dT z195 rfl rfl rfl (iDec.2 hc13) (oIAI rfl hx27 sF56 rfl rfl)) <| sT rfl (dT z195 rfl rfl rfl (iDec.2 hc13) (oFA (r' := .im 2 _) rfl fF163_0 rfl rfl)) <| sT rfl (dT z195 rfl rfl rfl (iDec.2 hc13) (oLd (cs := [.im 2 _]) rfl tF9 rfl rfl)) <| sT rfl (dT z195 rfl rfl rfl (iDec.2 hc13) (oBi rfl rfl rfl rfl)) <| sT rfl (dT z195 rfl rfl rfl (nF (Iff.rfl.2 hc12)) (oPkT rfl rfl (iDec.2 hc13) rfl)) <| sT rfl (dN z195 rfl (oPkF rfl rfl (nF (Iff.rfl.2 hc12)) rfl)) <| sD (by kernel_rfl))
          · rw [if_neg hc13] at hm15
            cases hm15
            exact sT rfl (dN z195 rfl (oMv rfl rfl)) <| sT rfl (dN z195 rfl (oMv rfl rfl)) <| sT rfl (dN z195 rfl (oIAI rfl hx12 sF56 rfl rfl)) <| sS (dN z195 rfl (oCa (xs := [.v false [.im 2 _]]) (vs := [(false, [.im 0 _])]) (v := .v false [.im 0 _]) (L_spec_l16One hx13) (.inl rfl) rfl kF242_291 rfl (ppC rfl pp0) rfl rfl pb0 rfl rfl rfl)) trivial (sT rfl (dN z195 rfl (oUn rfl rfl rfl)) <| sT rfl (dN z195 rfl (oMv rfl rfl)) <| sT rfl (dT z195 rfl rfl rfl (nF (Iff.rfl.2 hc12)) (oMv rfl rfl)) <| sT rfl (dT z195 rfl rfl rfl (nF (Iff.rfl.2 hc12)) (oBi rfl rfl rfl rfl)) <| sT rfl (dT z195 rfl rfl rfl (nF (Iff.rfl.2 hc12)) (oMv rfl rfl)) <| sT rfl (dF rfl rfl rfl (byF iDec hc13) rfl) <| sT rfl (dF rfl rfl rfl (byF iDec hc13) rfl) <| sT rfl (dF rfl rfl rfl (byF iDec hc13) rfl) <| sT rfl (dF rfl rfl rfl (byF iDec hc13) rfl) <| sT rfl (dF rfl rfl rfl (byF iDec hc13) rfl) <| sT rfl (dF rfl rfl rfl (byF iDec hc13) rfl) <| sT rfl (dF rfl rfl rfl (byF iDec hc13) rfl) <| sT rfl (dF rfl rfl rfl (byF iDec hc13) rfl) <| sT rfl (dF rfl rfl rfl (byF iDec hc13) rfl) <| sT rfl (dF rfl rfl rfl (byF iDec hc13) rfl) <| sT rfl (dF rfl rfl rfl (byF iDec hc13) rfl) <| sT rfl (dF rfl rfl rfl (byF iDec hc13) rfl) <| sT rfl (dT z195 rfl rfl rfl (nF (Iff.rfl.2 hc12)) (oPkF rfl rfl (byF iDec hc13) rfl)) <| sT rfl (dN z195 rfl (oPkF rfl rfl (nF (Iff.rfl.2 hc12)) rfl)) <| sD (by kernel_rfl))
        · rw [if_neg hc12] at hm15
          cases hm15
          exact sT rfl (dN z195 rfl (oMv rfl rfl)) <| sT rfl (dN z195 rfl (oMv rfl rfl)) <| sT rfl (dN z195 rfl (oIAI rfl hx12 sF56 rfl rfl)) <| sS (dN z195 rfl (oCa (xs := [.v false [.im 2 _]]) (vs := [(false, [.im 0 _])]) (v := .v false [.im 0 _]) (L_spec_l16One hx13) (.inl rfl) rfl kF242_291 rfl (ppC rfl pp0) rfl rfl pb0 rfl rfl rfl)) trivial (sT rfl (dN z195 rfl (oUn rfl rfl rfl)) <| sT rfl (dN z195 rfl (oMv rfl rfl)) <| sT rfl (dF rfl rfl rfl (nT (byF Iff.rfl hc12)) rfl) <| sT rfl (dF rfl rfl rfl (nT (byF Iff.rfl hc12)) rfl) <| sT rfl (dF rfl rfl rfl (nT (byF Iff.rfl hc12)) rfl) <| sT rfl (dU rfl rfl rfl rfl) <| sT rfl (dU rfl rfl rfl rfl) <| sT rfl (dU rfl rfl rfl rfl) <| sT rfl (dU rfl rfl rfl rfl) <| sT rfl (dU rfl rfl rfl rfl) <| sT rfl (dU rfl rfl rfl rfl) <| sT rfl (dU rfl rfl rfl rfl) <| sT rfl (dU rfl rfl rfl rfl) <| sT rfl (dU rfl rfl rfl rfl) <| sT rfl (dU rfl rfl rfl rfl) <| sT rfl (dU rfl rfl rfl rfl) <| sT rfl (dU rfl rfl rfl rfl) <| sT rfl (dF rfl rfl rfl (nT (byF Iff.rfl hc12)) rfl) <| sT rfl (dN z195 rfl (oPkT rfl rfl (nT (byF Iff.rfl hc12)) rfl)) <| sD (by kernel_rfl))
      · refine Unw.seq ?_
        by_cases hc14 : t_32_m4 = true
        · rw [if_pos hc14] at h
          refine Go.condT rfl (Iff.rfl.2 hc14) ?_
          refine Go.seq ?_
          refine Go.r0 c195 rfl rfl (sq z195 (oAsI rfl rfl) <| nl) ?_
          refine Unw.seq ?_
          refine Go.ret (Unw.ret ?_)
          cases h
          exact ⟨rfl, (fin_of rfl rF195 rfl (by kernel_rfl))⟩
        · rw [if_neg hc14] at h
          refine Go.condF rfl (byF Iff.rfl hc14) ?_
          refine Go.skip ?_
          refine Unw.blk ?_
          refine Unw.seq ?_
          refine Go.r0 c195 rfl rfl (sq z195 (oMv rfl rfl) <| sq z195 (oBi rfl rfl rfl rfl) <| sq z195 (oAsI rfl rfl) <| nl) ?_
          refine Unw.nil ?_
          cases h
          exact ⟨rfl, (by kernel_rfl)⟩
    · rw [if_neg hc11] at h
      refine Go.condF rfl (byF iDec hc11) ?_
      refine Go.exit ?_
      refine Unw.seqx ?_
      refine Unw.nil ?_
      cases h
      exact ⟨rfl, (by kernel_rfl)⟩
  · rintro ⟨e, st⟩ hp
    rcases o with u | r2
    · dsimp only at h
      obtain ⟨he, hst⟩ := hp
      obtain rfl : e = .exit 0 := he
      refine Unw.blkx ?_
      refine Unw.seq ?_
      refine Go.seq ?_
      refine Go.r1 c195 rfl rfl hst (sq z195 (oMv rfl rfl) <| sq z195 (oLnI rfl rfl uF56 rfl) <| sq z195 (oBi rfl rfl rfl rfl) <| sq z195 (oAsI rfl rfl) <| nl) ?_
      refine Unw.seq ?_
      refine Go.ret (Unw.ret ?_)
      cases h
      exact Fin_ret (fin_of rfl rF195 rfl (by kernel_rfl))
    · dsimp only at h
      obtain ⟨he, hfin⟩ := hp
      obtain rfl : e = .ret := he
      cases h
      exact Unw.ret (Fin_ret hfin)
theorem L_spec_l16Wear {c_0 : S_Cutting} {r : Int} (h : spec_l16Wear c_0 = some r) : FL Try.prog cfg 196 [.im 2 false [.cp [.sc (.string c_0.Name), .sc (.int .i64 c_0.Length), .sc (.int .i64 c_0.Hardness)] 0]] = some ([(false, [.im 0 (.sc (.int .i64 r))])], []) := by
  unfold spec_l16Wear at h
  refine FL_goS (A := [(0, .v false [.im 2 (.cp [.sc (.string c_0.Name), .sc (.int .i64 c_0.Length), .sc (.int .i64 c_0.Hardness)] 0)])]) (B := [(0, none)]) (nt := 14) rfl rfl Try.func196 rfl rfl rfl rfl ?_
  refine Go.seq ?_
  refine Go.r0 c196 rfl rfl (sq z196 (oAsI rfl rfl) <| nl) ?_
  refine Unw.seq ?_
  refine Go.seq ?_
  obtain ⟨x13, hx13, h⟩ := bs h
  refine Go.dr c196 rfl rfl rfl rfl (mk [(2, iv x13)] []) (sT rfl (dN z196 rfl (oMv rfl rfl)) <| sT rfl (dN z196 rfl (oNl rfl rfl rfl)) <| sT rfl (dN z196 rfl (oFA (r' := .im 2 _) rfl fF163_1 rfl rfl)) <| sT rfl (dN z196 rfl (oLd (cs := [.im 2 _]) rfl tF2 rfl rfl)) <| sT rfl (dN z196 rfl (oMv rfl rfl)) <| sT rfl (dN z196 rfl (oNl rfl rfl rfl)) <| sT rfl (dN z196 rfl (oFA (r' := .im 2 _) rfl fF163_2 rfl rfl)) <| sT rfl (dN z196 rfl (oLd (cs := [.im 2 _]) rfl tF2 rfl rfl)) <| sT rfl (dN z196 rfl (oBi rfl rfl rfl rfl)) <| sT rfl (dN z196 rfl (oBi rfl rfl rfl rfl)) <| sT rfl (dN z196 rfl (oQuo rfl hx13 rfl rfl)) <| sS (dN z196 rfl (oAsI rfl rfl)) trivial (sD (by kernel_rfl))) ?_
  refine Unw.seq ?_
  refine Go.ret (Unw.ret ?_)
  cases h
  exact Fin_ret (fin_of rfl rF196 rfl (by kernel_rfl))
theorem L_spec_l16Ask {b_0 : S_Blade} {list_1 : (List S_Cutting)} {r : Int} (h : spec_l16Ask b_0 list_1 = some r) : FL Try.prog cfg 110 [.im 2 false [.cp [.sc (.string b_0.Name), .sc (.int .i64 b_0.Life), .sc (.int .i64 b_0.Price), .sc (.int .i64 b_0.Speed)] 0], .im 2 false [.row 3 (List.map e_S_Cutting list_1)]] = some ([(false, [.im 0 (.sc (.int .i64 r))])], []) := by
  unfold spec_l16Ask at h
  refine FL_goS (A := [(0, .v false [.im 2 (.cp [.sc (.string b_0.Name), .sc (.int .i64 b_0.Life), .sc (.int .i64 b_0.Price), .sc (.int .i64 b_0.Speed)] 0)]), (1, .v false [.im 2 (.row 3 (List.map e_S_Cutting list_1))])]) (B := [(0, none), (1, none)]) (nt := 29) rfl rfl Try.func110 rfl rfl rfl rfl ?_
  refine Go.seq ?_
  refine Go.r0 c110 rfl rfl (sq z110 (oAsI rfl rfl) <| nl) ?_
  refine Unw.seq ?_
  refine Go.seq ?_
  refine Go.seq ?_
  obtain ⟨x7, hx7, h⟩ := bs h
  obtain ⟨t_13_m1, hm9, h⟩ := bs h
  refine Go.rX c110 rfl rfl rfl (mk [(0, .v false [.im 2 (.cp [.sc (.string b_0.Name), .sc (.int .i64 b_0.Life), .sc (.int .i64 b_0.Price), .sc (.int .i64 b_0.Speed)] 0)]), (1, .v false [.im 2 (.row 3 (List.map e_S_Cutting list_1))]), (13, bv t_13_m1)] []) ?_ ?_
  · by_cases hc1 : x7 = true
    · rw [if_pos hc1] at hm9
      obtain ⟨x11, hx11, hm9⟩ := bs hm9
      cases hm9
      exact ⟨_, sq z110 (oMv rfl rfl) <| sq z110 (oCa (xs := [.v false [.im 2 _]]) (vs := [(false, [.im 0 _])]) (v := .v false [.im 0 _]) (L_spec_l16Ok hx7) (.inl rfl) rfl kF194_158 rfl (ppC rfl pp0) rfl rfl pb0 rfl rfl rfl) <| sq z110 (oUn rfl rfl rfl) <| sq z110 (oMv rfl rfl) <| sgT z110 rfl rfl (nF (Iff.rfl.2 hc1)) (oMv rfl rfl) <| sgT z110 rfl rfl (nF (Iff.rfl.2 hc1)) (oCa (xs := [.v false [.im 2 _]]) (vs := [(false, [.im 0 _])]) (v := .v false [.im 0 _]) (L_spec_l16List hx11) (.inl rfl) rfl kF195_56 rfl (ppC rfl pp0) rfl rfl pb0 rfl rfl rfl) <| sgT z110 rfl rfl (nF (Iff.rfl.2 hc1)) (oUn rfl rfl rfl) <| sq z110 (oPkF rfl rfl (nF (Iff.rfl.2 hc1)) rfl) <| nl, (by kernel_rfl)⟩
    · rw [if_neg hc1] at hm9
      cases hm9
      exact ⟨_, sq z110 (oMv rfl rfl) <| sq z110 (oCa (xs := [.v false [.im 2 _]]) (vs := [(false, [.im 0 _])]) (v := .v false [.im 0 _]) (L_spec_l16Ok hx7) (.inl rfl) rfl kF194_158 rfl (ppC rfl pp0) rfl rfl pb0 rfl rfl rfl) <| sq z110 (oUn rfl rfl rfl) <| sq z110 (oMv rfl rfl) <| sgF rfl rfl (nT (byF Iff.rfl hc1)) rfl <| sgF rfl rfl (nT (byF Iff.rfl hc1)) rfl <| sgF rfl rfl (nT (byF Iff.rfl hc1)) rfl <| sq z110 (oPkT rfl rfl (nT (byF Iff.rfl hc1)) rfl) <| nl, (by kernel_rfl)⟩
  · refine Unw.seq ?_
    by_cases hc2 : t_13_m1 = true
    · rw [if_pos hc2] at h
      refine Go.condT rfl (Iff.rfl.2 hc2) ?_
      refine Go.seq ?_
      refine Go.r0 c110 rfl rfl (sq z110 (oAsI rfl rfl) <| nl) ?_
      refine Unw.seq ?_
      refine Go.ret (Unw.ret ?_)
      cases h
      exact Fin_ret (fin_of rfl rF110 rfl (by kernel_rfl))
    · rw [if_neg hc2] at h
      refine Go.condF rfl (byF Iff.rfl hc2) ?_
      refine Go.skip ?_
      refine Unw.seq ?_
      refine Go.seq ?_
      refine Go.seq ?_
      refine Go.r0 c110 rfl rfl (sq z110 (oAsI rfl rfl) <| nl) ?_
      refine Unw.seq ?_
      refine Go.block ?_
      obtain ⟨o, hl, h⟩ := bs h
      refine Go.lp c110 rfl _ (fun (i_5_l4 : Int) => mk [(0, .v false [.im 2 (.cp [.sc (.string b_0.Name), .sc (.int .i64 b_0.Life), .sc (.int .i64 b_0.Price), .sc (.int .i64 b_0.Speed)] 0)]), (1, .v false [.im 2 (.row 3 (List.map e_S_Cutting list_1))]), (5, iv i_5_l4)] []) (fun (o : (Unit ⊕ Int)) (p : Ex × St) => match o with | (.inl _) => p.1 = .exit 0 ∧ p.2.norm ([], []) = mk [] [] | (.inr r2) => p.1 = .ret ∧ fin Try.prog cfg 110 Try.f110 [.im 2 false [.cp [.sc (.string b_0.Name), .sc (.int .i64 b_0.Life), .sc (.int .i64 b_0.Price), .sc (.int .i64 b_0.Speed)] 0], .im 2 false [.row 3 (List.map e_S_Cutting list_1)]] p.2 = some ([(false, [.im 0 (.sc (.int .i64 r2))])], [])) hl (by kernel_rfl) ?_ ?_ ?_
      · intro o p hp e
        rcases o with u | r2 <;> exact nomatch (hp.1.symm.trans e)
      · rintro i_5_l4 o h
        unfold spec_l16Ask_l4 at h
        refine Go.seq ?_
        refine Go.seq ?_
        refine Go.r0 c110 rfl rfl (sq z110 (oMv rfl rfl) <| sq z110 (oMv rfl rfl) <| sq z110 (oLnI rfl rfl uF56 rfl) <| sq z110 (oBi rfl rfl rfl rfl) <| nl) ?_
        refine Unw.seq ?_
        by_cases hc7 : i_5_l4 < (list_1.length : Int)
        · rw [if_pos hc7] at h
          refine Go.condT rfl (iDec.2 hc7) ?_
          refine Go.skip ?_
          refine Unw.seq ?_
          refine Go.seq ?_
          refine Go.block ?_
          refine Go.seq ?_
          obtain ⟨x22, hx22, h⟩ := bs h
          obtain ⟨x23, hx23, h⟩ := bs h
          refine Go.dr c110 rfl rfl rfl rfl (mk [(0, .v false [.im 2 (.cp [.sc (.string b_0.Name), .sc (.int .i64 b_0.Life), .sc (.int .i64 b_0.Price), .sc (.int .i64 b_0.Speed)] 0)]), (1, .v false [.im 2 (.row 3 (List.map e_S_Cutting list_1))]), (5, iv i_5_l4), (28, bv (decide (x23 > b_0.Life)))] []) (sT rfl (dN z110 rfl (oMv rfl rfl)) <| sT rfl (dN z110 rfl (oMv rfl rfl)) <| sT rfl (dN z110 rfl (oIAI rfl hx22 sF56 rfl rfl)) <| sT rfl (dN z110 rfl (oMv rfl rfl)) <| sT rfl (dN z110 rfl (oNl rfl rfl rfl)) <| sT rfl (dN z110 rfl (oFA (r' := .im 2 _) rfl fF54_1 rfl rfl)) <| sT rfl (dN z110 rfl (oLd (cs := [.im 2 _]) rfl tF2 rfl rfl)) <| sS (dN z110 rfl (oCa (xs := [.v false [.im 2 _]]) (vs := [(false, [.im 0 _])]) (v := .v false [.im 0 _]) (L_spec_l16Wear hx23) (.inl rfl) rfl kF196_291 rfl (ppC rfl pp0) rfl rfl pb0 rfl rfl rfl)) trivial (sT rfl (dN z110 rfl (oBi rfl rfl rfl rfl)) <| sD (by kernel_rfl))) ?_
          refine Unw.seq ?_
          by_cases hc8 : x23 > b_0.Life
          · rw [if_pos hc8] at h
            refine Go.condT rfl (iDec.2 hc8) ?_
            refine Go.seq ?_
            refine Go.r0 c110 rfl rfl (sq z110 (oAsI rfl rfl) <| nl) ?_
            refine Unw.seq ?_
            refine Go.ret (Unw.ret ?_)
            cases h
            exact ⟨rfl, (fin_of rfl rF110 rfl (by kernel_rfl))⟩
          · rw [if_neg hc8] at h
            refine Go.condF rfl (byF iDec hc8) ?_
            refine Go.skip ?_
            refine Unw.blk ?_
            refine Unw.seq ?_
            refine Go.r0 c110 rfl rfl (sq z110 (oMv rfl rfl) <| sq z110 (oBi rfl rfl rfl rfl) <| sq z110 (oAsI rfl rfl) <| nl) ?_
            refine Unw.nil ?_
            cases h
            exact ⟨rfl, (by kernel_rfl)⟩
        · rw [if_neg hc7] at h
          refine Go.condF rfl (byF iDec hc7) ?_
          refine Go.exit ?_
          refine Unw.seqx ?_
          refine Unw.nil ?_
          cases h
          exact ⟨rfl, (by kernel_rfl)⟩
      · rintro ⟨e, st⟩ hp
        rcases o with u | r2
        · dsimp only at h
          obtain ⟨he, hst⟩ := hp
          obtain rfl : e = .exit 0 := he
          refine Unw.blkx ?_
          refine Unw.seq ?_
          refine Go.seq ?_
          refine Go.r1 c110 rfl rfl hst (sq z110 (oAsI rfl rfl) <| nl) ?_
          refine Unw.seq ?_
          refine Go.ret (Unw.ret ?_)
          cases h
          exact Fin_ret (fin_of rfl rF110 rfl (by kernel_rfl))
        · dsimp only at h
          obtain ⟨he, hfin⟩ := hp
          obtain rfl : e = .ret := he
          cases h
          exact Unw.ret (Fin_ret hfin)
theorem L_spec_l16Wears {list_0 : (List S_Cutting)} {r : (List Int)} (h : spec_l16Wears list_0 = some r) : FL Try.prog cfg 111 [.im 2 false [.row 3 (List.map e_S_Cutting list_0)]] = some ([(false, [.im 0 (.row 1 (List.map eI r))])], []) := by
  unfold spec_l16Wears at h
  refine FL_goS (A := [(0, .v false [.im 2 (.row 3 (List.map e_S_Cutting list_0))])]) (B := [(0, none)]) (nt := 20) rfl rfl Try.func111 rfl rfl rfl rfl ?_
  refine Go.seq ?_
  refine Go.r0 c111 rfl rfl (sqn z111 rfl (oAsN rfl rfl eF27) <| nl) ?_
  refine Unw.seq ?_
  refine Go.seq ?_
  refine Go.r0 c111 rfl rfl (sqn z111 rfl (oBS (es := List.map eI ([] : List Int)) rfl sF27 rfl pt0 (flat0 rfl fun _ => rfl)) <| sqn z111 rfl (oAsO rfl rfl rfl rfl rfl) <| nl) ?_
  refine Unw.seq ?_
  refine Go.seq ?_
  refine Go.seq ?_
  refine Go.r0 c111 rfl rfl (sqn z111 rfl (oAsI rfl rfl) <| nl) ?_
  refine Unw.seq ?_
  refine Go.block ?_
  obtain ⟨o, hl, h⟩ := bs h
  refine Go.lp c111 rfl _ (fun (s : (Int × (List Int))) => match s with | (i_4_l3, out_o3_l3) => mk [(0, .v false [.im 2 (.row 3 (List.map e_S_Cutting list_0))]), (3, .v false [.own 3 0 0]), (4, iv i_4_l3)] [(3, some ⟨0, 0, false, false, false, false, [⟨.sh, 0, 0, .row 1 (List.map eI out_o3_l3)⟩]⟩)]) (fun (out_o3_e0_3 : (List Int)) (p : Ex × St) => p.1 = .exit 0 ∧ p.2.norm ([3], [3]) = mk [(3, .v false [.own 3 0 0])] [(3, some ⟨0, 0, false, false, false, false, [⟨.sh, 0, 0, .row 1 (List.map eI out_o3_e0_3)⟩]⟩)]) hl (by kernel_rfl) ?_ ?_ ?_
  · intro o p hp e
    exact nomatch (hp.1.symm.trans e)
  · rintro ⟨i_4_l3, out_o3_l3⟩ o h
    unfold spec_l16Wears_l3 at h
    dsimp only at h
    refine Go.seq ?_
    refine Go.seq ?_
    refine Go.r0 c111 rfl rfl (sqn z111 rfl (oMv rfl rfl) <| sqn z111 rfl (oMv rfl rfl) <| sqn z111 rfl (oLnI rfl rfl uF56 rfl) <| sqn z111 rfl (oBi rfl rfl rfl rfl) <| nl) ?_
    refine Unw.seq ?_
    by_cases hc3 : i_4_l3 < (list_0.length : Int)
    · rw [if_pos hc3] at h
      refine Go.condT rfl (iDec.2 hc3) ?_
      refine Go.skip ?_
      refine Unw.seq ?_
      refine Go.seq ?_
      refine Go.block ?_
      obtain ⟨x15, hx15, h⟩ := bs h
      obtain ⟨x16, hx16, h⟩ := bs h
      obtain ⟨x18, hx18, h⟩ := bs h
      refine Go.r0 c111 rfl rfl (sqn z111 rfl (oMv rfl rfl) <| sqn z111 rfl (oMv rfl rfl) <| sqn z111 rfl (oMv rfl rfl) <| sqn z111 rfl (oIAI rfl hx15 sF56 rfl rfl) <| sqn z111 rfl (oCa (xs := [.v false [.im 2 _]]) (vs := [(false, [.im 0 _])]) (v := .v false [.im 0 _]) (L_spec_l16Wear hx16) (.inl rfl) rfl kF196_291 rfl (ppC rfl pp0) rfl rfl pb0 rfl rfl rfl) <| sqn z111 rfl (oBS (es := List.map eI ([x16] : List Int)) rfl sF27 rfl (ptC rfl (fxI fx0) rfl pt0) (flat0 rfl fun _ => rfl)) <| sqn z111 rfl (oApO (en := eI) (M := ([x16] : List Int)) rfl hx18 rfl sF27 rfl rfl uF27 (.inl ⟨_, rfl⟩) rfl rfl rfl rfl (el_own rfl rfl) (flat0 rfl fun _ => rfl)) <| sqn z111 rfl (oAsO rfl rfl rfl rfl rfl) <| nl) ?_
      refine Unw.blk ?_
      refine Unw.seq ?_
      refine Go.r0 c111 rfl rfl (sqn z111 rfl (oMv rfl rfl) <| sqn z111 rfl (oBi rfl rfl rfl rfl) <| sqn z111 rfl (oAsI rfl rfl) <| nl) ?_
      refine Unw.nil ?_
      cases h
      exact ⟨rfl, (by kernel_rfl)⟩
    · rw [if_neg hc3] at h
      refine Go.condF rfl (byF iDec hc3) ?_
      refine Go.exit ?_
      refine Unw.seqx ?_
      refine Unw.nil ?_
      cases h
      exact ⟨rfl, (by kernel_rfl)⟩
  · rintro ⟨e, st⟩ hp
    obtain ⟨out_o3_e0_3, rfl⟩ : ∃ y, y = o := ⟨o, rfl⟩
    obtain ⟨he, hst⟩ := hp
    obtain rfl : e = .exit 0 := he
    refine Unw.blkx ?_
    refine Unw.seq ?_
    refine Go.seq ?_
    refine Go.r1 c111 rfl rfl hst (sqf z111 rfl (oMv rfl rfl) (frzO rfl rfl rfl) <| sqn z111 rfl (oAsI rfl rfl) <| nl) ?_
    refine Unw.seq ?_
    refine Go.ret (Unw.ret ?_)
    cases h
    exact Fin_ret (fin_of rfl rF111 rfl (by kernel_rfl))
theorem L_spec_l16Search_run_F {self : S_l16Search → Option (Bool × S_l16Search)} (ih : ∀ {x_0 : S_l16Search} {r : (Bool × S_l16Search)}, self x_0 = some r → FL Try.prog cfg 112 [.ptr true [(.imm, .row 1 (List.map eI x_0.wears)), (.imm, .sc (.int .i64 x_0.life)), (.imm, .sc (.int .i64 x_0.most)), (.sh, .row 1 (List.map eI x_0.blades)), (.sh, .row 1 (List.map eI x_0.left)), (.imm, .sc (.int .i64 x_0.nodes)), (.imm, .sc (.int .i64 x_0.budget)), (.imm, .sc (.bool x_0.full))]] = some ([(false, [.im 0 (.sc (.bool r.1))])], [.ptr true [(.imm, .row 1 (List.map eI r.2.wears)), (.imm, .sc (.int .i64 r.2.life)), (.imm, .sc (.int .i64 r.2.most)), (.sh, .row 1 (List.map eI r.2.blades)), (.sh, .row 1 (List.map eI r.2.left)), (.imm, .sc (.int .i64 r.2.nodes)), (.imm, .sc (.int .i64 r.2.budget)), (.imm, .sc (.bool r.2.full))]])) {x_0 : S_l16Search} {r : (Bool × S_l16Search)} (h : spec_l16Search_run_F self x_0 = some r) : FL Try.prog cfg 112 [.ptr true [(.imm, .row 1 (List.map eI x_0.wears)), (.imm, .sc (.int .i64 x_0.life)), (.imm, .sc (.int .i64 x_0.most)), (.sh, .row 1 (List.map eI x_0.blades)), (.sh, .row 1 (List.map eI x_0.left)), (.imm, .sc (.int .i64 x_0.nodes)), (.imm, .sc (.int .i64 x_0.budget)), (.imm, .sc (.bool x_0.full))]] = some ([(false, [.im 0 (.sc (.bool r.1))])], [.ptr true [(.imm, .row 1 (List.map eI r.2.wears)), (.imm, .sc (.int .i64 r.2.life)), (.imm, .sc (.int .i64 r.2.most)), (.sh, .row 1 (List.map eI r.2.blades)), (.sh, .row 1 (List.map eI r.2.left)), (.imm, .sc (.int .i64 r.2.nodes)), (.imm, .sc (.int .i64 r.2.budget)), (.imm, .sc (.bool r.2.full))]]) := by
  unfold spec_l16Search_run_F at h
  refine FL_goS (A := [(0, .v false [.mp 0 0 0])]) (B := [(0, some ⟨0, 0, true, true, false, true, [⟨.imm, 0, 1, .row 1 (List.map eI x_0.wears)⟩, ⟨.imm, 0, 0, .sc (.int .i64 x_0.life)⟩, ⟨.imm, 0, 0, .sc (.int .i64 x_0.most)⟩, ⟨.sh, 0, 0, .row 1 (List.map eI x_0.blades)⟩, ⟨.sh, 0, 0, .row 1 (List.map eI x_0.left)⟩, ⟨.imm, 0, 0, .sc (.int .i64 x_0.nodes)⟩, ⟨.imm, 0, 0, .sc (.int .i64 x_0.budget)⟩, ⟨.imm, 0, 0, .sc (.bool x_0.full)⟩]⟩)]) (nt := 161) rfl rfl Try.func112 rfl rfl rfl rfl ?_
  refine Go.seq ?_
  refine Go.r0 c112 rfl rfl (sq z112 (oAsI rfl rfl) <| nl) ?_
  refine Unw.seq ?_
  refine Go.seq ?_
  refine Go.r0 c112 rfl rfl (sq z112 (oMv rfl rfl) <| sq z112 (oNl rfl rfl rfl) <| sq z112 (oFA (r' := .mp 0 0 3) rfl fF162_3 rfl rfl) <| sq z112 (oLd (cs := [.own 0 0 3]) rfl tF27 rfl rfl) <| sq z112 (oLnO rfl rfl uF27 rfl rfl rfl (fun e => nomatch e)) <| sq z112 (oAsI rfl rfl) <| nl) ?_
  refine Unw.seq ?_
  refine Go.seq ?_
  refine Go.seq ?_
  refine Go.r0 c112 rfl rfl (sq z112 (oMv rfl rfl) <| sq z112 (oMv rfl rfl) <| sq z112 (oNl rfl rfl rfl) <| sq z112 (oFA (r' := .mp 0 0 0) rfl fF162_0 rfl rfl) <| sq z112 (oLd (cs := [.im 1 _]) rfl tF27 rfl rfl) <| sq z112 (oLnI rfl rfl uF27 rfl) <| sq z112 (oBi rfl rfl rfl rfl) <| nl) ?_
  refine Unw.seq ?_
  by_cases hc1 : (x_0.blades.length : Int) = (x_0.wears.length : Int)
  · rw [if_pos hc1] at h
    refine Go.condT rfl (iEq.2 hc1) ?_
    refine Go.seq ?_
    refine Go.r0 c112 rfl rfl (sq z112 (oAsI rfl rfl) <| nl) ?_
    refine Unw.seq ?_
    refine Go.ret (Unw.ret ?_)
    cases h
    exact Fin_ret (fin_of rfl rF112 rfl (by kernel_rfl))
  · rw [if_neg hc1] at h
    refine Go.condF rfl (byF iEq hc1) ?_
    refine Go.skip ?_
    refine Unw.seq ?_
    refine Go.seq ?_
    refine Go.seq ?_
    refine Go.r0 c112 rfl rfl (sq z112 (oAsI rfl rfl) <| nl) ?_
    refine Unw.seq ?_
    refine Go.block ?_
    obtain ⟨o, hl, h⟩ := bs h
    refine Go.lp c112 rfl _ (fun (s : (Int × (List Int) × Int × Int × (List Int) × (List Int) × Int × Int × Bool)) => match s with | (b_4_l5, x_o0_0_l5, x_o0_1_l5, x_o0_2_l5, x_o0_3_l5, x_o0_4_l5, x_o0_5_l5, x_o0_6_l5, x_o0_7_l5) => mk [(0, .v false [.mp 0 0 0]), (3, iv (x_0.blades.length : Int)), (4, iv b_4_l5)] [(0, some ⟨0, 0, true, true, false, true, [⟨.imm, 0, 1, .row 1 (List.map eI x_o0_0_l5)⟩, ⟨.imm, 0, 0, .sc (.int .i64 x_o0_1_l5)⟩, ⟨.imm, 0, 0, .sc (.int .i64 x_o0_2_l5)⟩, ⟨.sh, 0, 0, .row 1 (List.map eI x_o0_3_l5)⟩, ⟨.sh, 0, 0, .row 1 (List.map eI x_o0_4_l5)⟩, ⟨.imm, 0, 0, .sc (.int .i64 x_o0_5_l5)⟩, ⟨.imm, 0, 0, .sc (.int .i64 x_o0_6_l5)⟩, ⟨.imm, 0, 0, .sc (.bool x_o0_7_l5)⟩]⟩)]) (fun (o : (((List Int) × Int × Int × (List Int) × (List Int) × Int × Int × Bool) ⊕ (Bool × S_l16Search))) (p : Ex × St) => match o with | (.inl (x_o0_0_e0_5, x_o0_1_e0_5, x_o0_2_e0_5, x_o0_3_e0_5, x_o0_4_e0_5, x_o0_5_e0_5, x_o0_6_e0_5, x_o0_7_e0_5)) => p.1 = .exit 0 ∧ p.2.norm ([], [0]) = mk [] [(0, some ⟨0, 0, true, true, false, true, [⟨.imm, 0, 1, .row 1 (List.map eI x_o0_0_e0_5)⟩, ⟨.imm, 0, 0, .sc (.int .i64 x_o0_1_e0_5)⟩, ⟨.imm, 0, 0, .sc (.int .i64 x_o0_2_e0_5)⟩, ⟨.sh, 0, 0, .row 1 (List.map eI x_o0_3_e0_5)⟩, ⟨.sh, 0, 0, .row 1 (List.map eI x_o0_4_e0_5)⟩, ⟨.imm, 0, 0, .sc (.int .i64 x_o0_5_e0_5)⟩, ⟨.imm, 0, 0, .sc (.int .i64 x_o0_6_e0_5)⟩, ⟨.imm, 0, 0, .sc (.bool x_o0_7_e0_5)⟩]⟩)] | (.inr r2) => p.1 = .ret ∧ fin Try.prog cfg 112 Try.f112 [.ptr true [(.imm, .row 1 (List.map eI x_0.wears)), (.imm, .sc (.int .i64 x_0.life)), (.imm, .sc (.int .i64 x_0.most)), (.sh, .row 1 (List.map eI x_0.blades)), (.sh, .row 1 (List.map eI x_0.left)), (.imm, .sc (.int .i64 x_0.nodes)), (.imm, .sc (.int .i64 x_0.budget)), (.imm, .sc (.bool x_0.full))]] p.2 = some ([(false, [.im 0 (.sc (.bool r2.1))])], [.ptr true [(.imm, .row 1 (List.map eI r2.2.wears)), (.imm, .sc (.int .i64 r2.2.life)), (.imm, .sc (.int .i64 r2.2.most)), (.sh, .row 1 (List.map eI r2.2.blades)), (.sh, .row 1 (List.map eI r2.2.left)), (.imm, .sc (.int .i64 r2.2.nodes)), (.imm, .sc (.int .i64 r2.2.budget)), (.imm, .sc (.bool r2.2.full))]])) hl (by kernel_rfl) ?_ ?_ ?_
    · intro o p hp e
      rcases o with ⟨x_o0_0_e0_5, x_o0_1_e0_5, x_o0_2_e0_5, x_o0_3_e0_5, x_o0_4_e0_5, x_o0_5_e0_5, x_o0_6_e0_5, x_o0_7_e0_5⟩ | r2 <;> exact nomatch (hp.1.symm.trans e)
    · rintro ⟨b_4_l5, x_o0_0_l5, x_o0_1_l5, x_o0_2_l5, x_o0_3_l5, x_o0_4_l5, x_o0_5_l5, x_o0_6_l5, x_o0_7_l5⟩ o h
      unfold spec_l16Search_run_l5 at h
      dsimp only at h
      refine Go.seq ?_
      refine Go.seq ?_
      refine Go.rX c112 rfl rfl rfl (mk [(0, .v false [.mp 0 0 0]), (3, iv (x_0.blades.length : Int)), (4, iv b_4_l5), (32, bv ((decide (b_4_l5 < x_o0_2_l5)) && (decide (b_4_l5 ≤ (x_o0_4_l5.length : Int)))))] [(0, some ⟨0, 0, true, true, false, true, [⟨.imm, 0, 1, .row 1 (List.map eI x_o0_0_l5)⟩, ⟨.imm, 0, 0, .sc (.int .i64 x_o0_1_l5)⟩, ⟨.imm, 0, 0, .sc (.int .i64 x_o0_2_l5)⟩, ⟨.sh, 0, 0, .row 1 (List.map eI x_o0_3_l5)⟩, ⟨.sh, 0, 0, .row 1 (List.map eI x_o0_4_l5)⟩, ⟨.imm, 0, 0, .sc (.int .i64 x_o0_5_l5)⟩, ⟨.imm, 0, 0, .sc (.int .i64 x_o0_6_l5)⟩, ⟨.imm, 0, 0, .sc (.bool x_o0_7_l5)⟩]⟩)]) ?_ ?_
      · by_cases hc22 : b_4_l5 < x_o0_2_l5
        · exact ⟨_, sq z112 (oMv rfl rfl) <| sq z112 (oMv rfl rfl) <| sq z112 (oNl rfl rfl rfl) <| sq z112 (oFA (r' := .mp 0 0 2) rfl fF162_2 rfl rfl) <| sq z112 (oLd (cs := [.im 0 _]) rfl tF2 rfl rfl) <| sq z112 (oBi rfl rfl rfl rfl) <| sq z112 (oMv rfl rfl) <| sgT z112 rfl rfl (iDec.2 hc22) (oMv rfl rfl) <| sgT z112 rfl rfl (iDec.2 hc22) (oMv rfl rfl) <| sgT z112 rfl rfl (iDec.2 hc22) (oNl rfl rfl rfl) <| sgT z112 rfl rfl (iDec.2 hc22) (oFA (r' := .mp 0 0 4) rfl fF162_4 rfl rfl) <| sgT z112 rfl rfl (iDec.2 hc22) (oLd (cs := [.own 0 0 4]) rfl tF27 rfl rfl) <| sgT z112 rfl rfl (iDec.2 hc22) (oLnO rfl rfl uF27 rfl rfl rfl (fun e => nomatch e)) <| sgT z112 rfl rfl (iDec.2 hc22) (oBi rfl rfl rfl rfl) <| sq z112 (oPkT rfl rfl (iDec.2 hc22) rfl) <| nl, (Eq.trans (b := (fun t_32_m5 : Bool => mk [(0, .v false [.mp 0 0 0]), (3, iv (x_0.blades.length : Int)), (4, iv b_4_l5), (32, bv t_32_m5)] [(0, some ⟨0, 0, true, true, false, true, [⟨.imm, 0, 1, .row 1 (List.map eI x_o0_0_l5)⟩, ⟨.imm, 0, 0, .sc (.int .i64 x_o0_1_l5)⟩, ⟨.imm, 0, 0, .sc (.int .i64 x_o0_2_l5)⟩, ⟨.sh, 0, 0, .row 1 (List.map eI x_o0_3_l5)⟩, ⟨.sh, 0, 0, .row 1 (List.map eI x_o0_4_l5)⟩, ⟨.imm, 0, 0, .sc (.int .i64 x_o0_5_l5)⟩, ⟨.imm, 0, 0, .sc (.int .i64 x_o0_6_l5)⟩, ⟨.imm, 0, 0, .sc (.bool x_o0_7_l5)⟩]⟩)]) (decide (b_4_l5 ≤ (x_o0_4_l5.length : Int)))) (by kernel_rfl) (congrArg (fun t_32_m5 : Bool => mk [(0, .v false [.mp 0 0 0]), (3, iv (x_0.blades.length : Int)), (4, iv b_4_l5), (32, bv t_32_m5)] [(0, some ⟨0, 0, true, true, false, true, [⟨.imm, 0, 1, .row 1 (List.map eI x_o0_0_l5)⟩, ⟨.imm, 0, 0, .sc (.int .i64 x_o0_1_l5)⟩, ⟨.imm, 0, 0, .sc (.int .i64 x_o0_2_l5)⟩, ⟨.sh, 0, 0, .row 1 (List.map eI x_o0_3_l5)⟩, ⟨.sh, 0, 0, .row 1 (List.map eI x_o0_4_l5)⟩, ⟨.imm, 0, 0, .sc (.int .i64 x_o0_5_l5)⟩, ⟨.imm, 0, 0, .sc (.int .i64 x_o0_6_l5)⟩, ⟨.imm, 0, 0, .sc (.bool x_o0_7_l5)⟩]⟩)]) (by first | rfl | simp [(iDec.2 hc22)])))⟩
        · exact ⟨_, sq z112 (oMv rfl rfl) <| sq z112 (oMv rfl rfl) <| sq z112 (oNl rfl rfl rfl) <| sq z112 (oFA (r' := .mp 0 0 2) rfl fF162_2 rfl rfl) <| sq z112 (oLd (cs := [.im 0 _]) rfl tF2 rfl rfl) <| sq z112 (oBi rfl rfl rfl rfl) <| sq z112 (oMv rfl rfl) <| sgF rfl rfl (byF iDec hc22) rfl <| sgF rfl rfl (byF iDec hc22) rfl <| sgF rfl rfl (byF iDec hc22) rfl <| sgF rfl rfl (byF iDec hc22) rfl <| sgF rfl rfl (byF iDec hc22) rfl <| sgF rfl rfl (byF iDec hc22) rfl <| sgF rfl rfl (byF iDec hc22) rfl <| sq z112 (oPkF rfl rfl (byF iDec hc22) rfl) <| nl, (Eq.trans (b := (fun t_32_m5 : Bool => mk [(0, .v false [.mp 0 0 0]), (3, iv (x_0.blades.length : Int)), (4, iv b_4_l5), (32, bv t_32_m5)] [(0, some ⟨0, 0, true, true, false, true, [⟨.imm, 0, 1, .row 1 (List.map eI x_o0_0_l5)⟩, ⟨.imm, 0, 0, .sc (.int .i64 x_o0_1_l5)⟩, ⟨.imm, 0, 0, .sc (.int .i64 x_o0_2_l5)⟩, ⟨.sh, 0, 0, .row 1 (List.map eI x_o0_3_l5)⟩, ⟨.sh, 0, 0, .row 1 (List.map eI x_o0_4_l5)⟩, ⟨.imm, 0, 0, .sc (.int .i64 x_o0_5_l5)⟩, ⟨.imm, 0, 0, .sc (.int .i64 x_o0_6_l5)⟩, ⟨.imm, 0, 0, .sc (.bool x_o0_7_l5)⟩]⟩)]) false) (by kernel_rfl) (congrArg (fun t_32_m5 : Bool => mk [(0, .v false [.mp 0 0 0]), (3, iv (x_0.blades.length : Int)), (4, iv b_4_l5), (32, bv t_32_m5)] [(0, some ⟨0, 0, true, true, false, true, [⟨.imm, 0, 1, .row 1 (List.map eI x_o0_0_l5)⟩, ⟨.imm, 0, 0, .sc (.int .i64 x_o0_1_l5)⟩, ⟨.imm, 0, 0, .sc (.int .i64 x_o0_2_l5)⟩, ⟨.sh, 0, 0, .row 1 (List.map eI x_o0_3_l5)⟩, ⟨.sh, 0, 0, .row 1 (List.map eI x_o0_4_l5)⟩, ⟨.imm, 0, 0, .sc (.int .i64 x_o0_5_l5)⟩, ⟨.imm, 0, 0, .sc (.int .i64 x_o0_6_l5)⟩, ⟨.imm, 0, 0, .sc (.bool x_o0_7_l5)⟩]⟩)]) (by first | rfl | simp [(byF iDec hc22)])))⟩
      · refine Unw.seq ?_
        by_cases hc23 : (b_4_l5 < x_o0_2_l5 ∧ b_4_l5 ≤ (x_o0_4_l5.length : Int))
        · rw [if_pos hc23] at h
          refine Go.condT rfl ((iAnd iDec iDec).2 hc23) ?_
          refine Go.skip ?_
          refine Unw.seq ?_
          refine Go.seq ?_
          refine Go.join (fun st => ∃ x_o0_0_r6, ∃ x_o0_1_r6, ∃ x_o0_2_r6, ∃ x_o0_3_r6, ∃ x_o0_4_r6, ∃ x_o0_5_r6, ∃ x_o0_6_r6, ∃ x_o0_7_r6, spec_l16Search_run_k6 self b_4_l5 x_o0_0_r6 x_o0_1_r6 x_o0_2_r6 x_o0_3_r6 x_o0_4_r6 x_o0_5_r6 x_o0_6_r6 x_o0_7_r6 = some o ∧ st.norm ([0, 3, 4], [0]) = mk [(0, .v false [.mp 0 0 0]), (3, iv (x_0.blades.length : Int)), (4, iv b_4_l5)] [(0, some ⟨0, 0, true, true, false, true, [⟨.imm, 0, 1, .row 1 (List.map eI x_o0_0_r6)⟩, ⟨.imm, 0, 0, .sc (.int .i64 x_o0_1_r6)⟩, ⟨.imm, 0, 0, .sc (.int .i64 x_o0_2_r6)⟩, ⟨.sh, 0, 0, .row 1 (List.map eI x_o0_3_r6)⟩, ⟨.sh, 0, 0, .row 1 (List.map eI x_o0_4_r6)⟩, ⟨.imm, 0, 0, .sc (.int .i64 x_o0_5_r6)⟩, ⟨.imm, 0, 0, .sc (.int .i64 x_o0_6_r6)⟩, ⟨.imm, 0, 0, .sc (.bool x_o0_7_r6)⟩]⟩)]) ?_ ?_
          · rintro st ⟨x_o0_0_r6, x_o0_1_r6, x_o0_2_r6, x_o0_3_r6, x_o0_4_r6, x_o0_5_r6, x_o0_6_r6, x_o0_7_r6, h, hst⟩
            unfold spec_l16Search_run_k6 at h
            refine Unw.seq ?_
            refine Go.r1 c112 rfl rfl hst (sq z112 (oMv rfl rfl) <| sq z112 (oBi rfl rfl rfl rfl) <| sq z112 (oAsI rfl rfl) <| nl) ?_
            refine Unw.nil ?_
            cases h
            exact ⟨rfl, (by kernel_rfl)⟩
          · intro K32
            refine Go.block ?_
            refine Go.seq ?_
            refine Go.r0 c112 rfl rfl (sq z112 (oMv rfl rfl) <| sq z112 (oMv rfl rfl) <| sq z112 (oNl rfl rfl rfl) <| sq z112 (oFA (r' := .mp 0 0 4) rfl fF162_4 rfl rfl) <| sq z112 (oLd (cs := [.own 0 0 4]) rfl tF27 rfl rfl) <| sq z112 (oLnO rfl rfl uF27 rfl rfl rfl (fun e => nomatch e)) <| sq z112 (oBi rfl rfl rfl rfl) <| sq z112 (oAsI rfl rfl) <| nl) ?_
            refine Unw.seq ?_
            refine Go.seq ?_
            refine Go.seq ?_
            obtain ⟨t_60_m8, hm44, h⟩ := bs h
            refine Go.dr c112 rfl rfl rfl rfl (mk [(0, .v false [.mp 0 0 0]), (3, iv (x_0.blades.length : Int)), (4, iv b_4_l5), (5, bv (b_4_l5 == (x_o0_4_l5.length : Int))), (60, bv t_60_m8)] [(0, some ⟨0, 0, true, true, false, true, [⟨.imm, 0, 1, .row 1 (List.map eI x_o0_0_l5)⟩, ⟨.imm, 0, 0, .sc (.int .i64 x_o0_1_l5)⟩, ⟨.imm, 0, 0, .sc (.int .i64 x_o0_2_l5)⟩, ⟨.sh, 0, 0, .row 1 (List.map eI x_o0_3_l5)⟩, ⟨.sh, 0, 0, .row 1 (List.map eI x_o0_4_l5)⟩, ⟨.imm, 0, 0, .sc (.int .i64 x_o0_5_l5)⟩, ⟨.imm, 0, 0, .sc (.int .i64 x_o0_6_l5)⟩, ⟨.imm, 0, 0, .sc (.bool x_o0_7_l5)⟩]⟩)]) ?_ ?_
            · by_cases hc33 : b_4_l5 = (x_o0_4_l5.length : Int)
              · rw [if_pos hc33] at hm44
                cases hm44
                exact sT rfl (dN z112 rfl (oMv rfl rfl)) <| sT rfl (dN z112 rfl (oUn rfl rfl rfl)) <| sT rfl (dN z112 rfl (oMv rfl rfl)) <| sT rfl (dF rfl rfl rfl (nF (iEq.2 hc33)) rfl) <| sT rfl (dF rfl rfl rfl (nF (iEq.2 hc33)) rfl) <| sT rfl (dF rfl rfl rfl (nF (iEq.2 hc33)) rfl) <| sT rfl (dF rfl rfl rfl (nF (iEq.2 hc33)) rfl) <| sT rfl (dF rfl rfl rfl (nF (iEq.2 hc33)) rfl) <| sT rfl (dF rfl rfl rfl (nF (iEq.2 hc33)) rfl) <| sT rfl (dF rfl rfl rfl (nF (iEq.2 hc33)) rfl) <| sT rfl (dF rfl rfl rfl (nF (iEq.2 hc33)) rfl) <| sT rfl (dF rfl rfl rfl (nF (iEq.2 hc33)) rfl) <| sT rfl (dF rfl rfl rfl (nF (iEq.2 hc33)) rfl) <| sT rfl (dF rfl rfl rfl (nF (iEq.2 hc33)) rfl) <| sT rfl (dF rfl rfl rfl (nF (iEq.2 hc33)) rfl) <| sT rfl (dF rfl rfl rfl (nF (iEq.2 hc33)) rfl) <| sT rfl (dF rfl rfl rfl (nF (iEq.2 hc33)) rfl) <| sT rfl (dF rfl rfl rfl (nF (iEq.2 hc33)) rfl) <| sT rfl (dN z112 rfl (oPkF rfl rfl (nF (iEq.2 hc33)) rfl)) <| sD (by kernel_rfl)
              · rw [if_neg hc33] at hm44
                obtain ⟨x50, hx50, hm44⟩ := bs hm44
                obtain ⟨x57, hx57, hm44⟩ := bs hm44
                cases hm44
                exact sT rfl (dN z112 rfl (oMv rfl rfl)) <| sT rfl (dN z112 rfl (oUn rfl rfl rfl)) <| sT rfl (dN z112 rfl (oMv rfl rfl)) <| sT rfl (dT z112 rfl rfl rfl (nT (byF iEq hc33)) (oMv rfl rfl)) <| sT rfl (dT z112 rfl rfl rfl (nT (byF iEq hc33)) (oNl rfl rfl rfl)) <| sT rfl (dT z112 rfl rfl rfl (nT (byF iEq hc33)) (oFA (r' := .mp 0 0 4) rfl fF162_4 rfl rfl)) <| sT rfl (dT z112 rfl rfl rfl (nT (byF iEq hc33)) (oLd (cs := [.own 0 0 4]) rfl tF27 rfl rfl)) <| sT rfl (dT z112 rfl rfl rfl (nT (byF iEq hc33)) (oMv rfl rfl)) <| sT rfl (dT z112 rfl rfl rfl (nT (byF iEq hc33)) (oIAO rfl hx50 sF27 rfl rfl rfl rfl)) <| sT rfl (dT z112 rfl rfl rfl (nT (byF iEq hc33)) (oLdE (cs := [.im 0 _]) rfl tF2 rfl rfl rfl (fun e => nomatch e) (rd_get hx50) rfl rfl)) <| sT rfl (dT z112 rfl rfl rfl (nT (byF iEq hc33)) (oMv rfl rfl)) <| sT rfl (dT z112 rfl rfl rfl (nT (byF iEq hc33)) (oNl rfl rfl rfl)) <| sT rfl (dT z112 rfl rfl rfl (nT (byF iEq hc33)) (oFA (r' := .mp 0 0 0) rfl fF162_0 rfl rfl)) <| sT rfl (dT z112 rfl rfl rfl (nT (byF iEq hc33)) (oLd (cs := [.im 1 _]) rfl tF27 rfl rfl)) <| sT rfl (dT z112 rfl rfl rfl (nT (byF iEq hc33)) (oMv rfl rfl)) <| sT rfl (dT z112 rfl rfl rfl (nT (byF iEq hc33)) (oIAI rfl hx57 sF27 rfl rfl)) <| sT rfl (dT z112 rfl rfl rfl (nT (byF iEq hc33)) (oLd (cs := [.im 1 _]) rfl tF2 rfl rfl)) <| sT rfl (dT z112 rfl rfl rfl (nT (byF iEq hc33)) (oBi rfl rfl rfl rfl)) <| sT rfl (dN z112 rfl (oPkT rfl rfl (nT (byF iEq hc33)) rfl)) <| sD (by kernel_rfl)
            · refine Unw.seq ?_
              by_cases hc34 : t_60_m8 = true
              · rw [if_pos hc34] at h
                refine Go.condT rfl (Iff.rfl.2 hc34) ?_
                refine Go.exit ?_
                refine Unw.seqx ?_
                refine Unw.blkx ?_
                exact K32 _ ⟨x_o0_0_l5, x_o0_1_l5, x_o0_2_l5, x_o0_3_l5, x_o0_4_l5, x_o0_5_l5, x_o0_6_l5, x_o0_7_l5, h, (by kernel_rfl)⟩
              · rw [if_neg hc34] at h
                refine Go.condF rfl (byF Iff.rfl hc34) ?_
                refine Go.skip ?_
                refine Unw.seq ?_
                refine Go.seq ?_
                refine Go.seq ?_
                refine Go.dr c112 rfl rfl rfl rfl (mk [(0, .v false [.mp 0 0 0]), (3, iv (x_0.blades.length : Int)), (4, iv b_4_l5), (5, bv (b_4_l5 == (x_o0_4_l5.length : Int))), (69, bv (x_o0_5_l5 == x_o0_6_l5))] [(0, some ⟨0, 0, true, true, false, true, [⟨.imm, 0, 1, .row 1 (List.map eI x_o0_0_l5)⟩, ⟨.imm, 0, 0, .sc (.int .i64 x_o0_1_l5)⟩, ⟨.imm, 0, 0, .sc (.int .i64 x_o0_2_l5)⟩, ⟨.sh, 0, 0, .row 1 (List.map eI x_o0_3_l5)⟩, ⟨.sh, 0, 0, .row 1 (List.map eI x_o0_4_l5)⟩, ⟨.imm, 0, 0, .sc (.int .i64 x_o0_5_l5)⟩, ⟨.imm, 0, 0, .sc (.int .i64 x_o0_6_l5)⟩, ⟨.imm, 0, 0, .sc (.bool x_o0_7_l5)⟩]⟩)]) (sT rfl (dN z112 rfl (oMv rfl rfl)) <| sT rfl (dN z112 rfl (oNl rfl rfl rfl)) <| sT rfl (dN z112 rfl (oFA (r' := .mp 0 0 5) rfl fF162_5 rfl rfl)) <| sT rfl (dN z112 rfl (oLd (cs := [.im 0 _]) rfl tF2 rfl rfl)) <| sT rfl (dN z112 rfl (oMv rfl rfl)) <| sT rfl (dN z112 rfl (oNl rfl rfl rfl)) <| sT rfl (dN z112 rfl (oFA (r' := .mp 0 0 6) rfl fF162_6 rfl rfl)) <| sT rfl (dN z112 rfl (oLd (cs := [.im 0 _]) rfl tF2 rfl rfl)) <| sT rfl (dN z112 rfl (oBi rfl rfl rfl rfl)) <| sD (by kernel_rfl)) ?_
                refine Unw.seq ?_
                refine Go.join (fun st => ∃ x_o0_7_r11, spec_l16Search_run_k11 self b_4_l5 x_0 x_o0_0_l5 x_o0_1_l5 x_o0_2_l5 x_o0_3_l5 x_o0_4_l5 x_o0_5_l5 x_o0_6_l5 x_o0_7_r11 = some o ∧ st.norm ([0, 3, 4, 5], [0]) = mk [(0, .v false [.mp 0 0 0]), (3, iv (x_0.blades.length : Int)), (4, iv b_4_l5), (5, bv (b_4_l5 == (x_o0_4_l5.length : Int)))] [(0, some ⟨0, 0, true, true, false, true, [⟨.imm, 0, 1, .row 1 (List.map eI x_o0_0_l5)⟩, ⟨.imm, 0, 0, .sc (.int .i64 x_o0_1_l5)⟩, ⟨.imm, 0, 0, .sc (.int .i64 x_o0_2_l5)⟩, ⟨.sh, 0, 0, .row 1 (List.map eI x_o0_3_l5)⟩, ⟨.sh, 0, 0, .row 1 (List.map eI x_o0_4_l5)⟩, ⟨.imm, 0, 0, .sc (.int .i64 x_o0_5_l5)⟩, ⟨.imm, 0, 0, .sc (.int .i64 x_o0_6_l5)⟩, ⟨.imm, 0, 0, .sc (.bool x_o0_7_r11)⟩]⟩)]) ?_ ?_
                · rintro st ⟨x_o0_7_r11, h, hst⟩
                  unfold spec_l16Search_run_k11 at h
                  refine Unw.seq ?_
                  refine Go.seq ?_
                  refine Go.seq ?_
                  refine Go.r1 c112 rfl rfl hst (sq z112 (oMv rfl rfl) <| sq z112 (oNl rfl rfl rfl) <| sq z112 (oFA (r' := .mp 0 0 7) rfl fF162_7 rfl rfl) <| sq z112 (oLd (cs := [.im 0 _]) rfl tF4 rfl rfl) <| nl) ?_
                  refine Unw.seq ?_
                  by_cases hc36 : x_o0_7_r11 = true
                  · rw [if_pos hc36] at h
                    refine Go.condT rfl (Iff.rfl.2 hc36) ?_
                    refine Go.seq ?_
                    refine Go.r0 c112 rfl rfl (sq z112 (oAsI rfl rfl) <| nl) ?_
                    refine Unw.seq ?_
                    refine Go.ret (Unw.ret ?_)
                    cases h
                    exact ⟨rfl, (fin_of rfl rF112 rfl (by kernel_rfl))⟩
                  · rw [if_neg hc36] at h
                    refine Go.condF rfl (byF Iff.rfl hc36) ?_
                    refine Go.skip ?_
                    refine Unw.seq ?_
                    refine Go.seq ?_
                    refine Go.r0 c112 rfl rfl (sq z112 (oMv rfl rfl) <| sq z112 (oNl rfl rfl rfl) <| sq z112 (oFA (r' := .mp 0 0 5) rfl fF162_5 rfl rfl) <| sq z112 (oLd (cs := [.im 0 _]) rfl tF2 rfl rfl) <| sq z112 (oBi rfl rfl rfl rfl) <| sq z112 (oNl rfl rfl rfl) <| sq z112 (oFA (r' := .mp 0 0 5) rfl fF162_5 rfl rfl) <| sq z112 (oSt tF2 rfl rfl rfl (tkI tk0) rfl rfl rfl) <| nl) ?_
                    refine Unw.seq ?_
                    refine Go.seq ?_
                    refine Go.seq ?_
                    refine Go.r1 c112 rfl rfl (st1 := mk [(0, .v false [.mp 0 0 0]), (3, iv (x_0.blades.length : Int)), (4, iv b_4_l5), (5, bv (b_4_l5 == (x_o0_4_l5.length : Int)))] [(0, some ⟨0, 0, true, true, false, true, [⟨.imm, 0, 1, .row 1 (List.map eI x_o0_0_l5)⟩, ⟨.imm, 0, 0, .sc (.int .i64 x_o0_1_l5)⟩, ⟨.imm, 0, 0, .sc (.int .i64 x_o0_2_l5)⟩, ⟨.sh, 0, 0, .row 1 (List.map eI x_o0_3_l5)⟩, ⟨.sh, 0, 0, .row 1 (List.map eI x_o0_4_l5)⟩, ⟨.imm, 0, 0, .sc (.int .i64 (w64 (x_o0_5_l5 + 1)))⟩, ⟨.imm, 0, 0, .sc (.int .i64 x_o0_6_l5)⟩, ⟨.imm, 0, 0, .sc (.bool x_o0_7_r11)⟩]⟩)]) (by kernel_rfl) (sq z112 (oMv rfl rfl) <| nl) ?_
                    refine Unw.seq ?_
                    refine Go.join (fun st => ∃ x_o0_4_r16, spec_l16Search_run_k16 self b_4_l5 x_0 x_o0_0_l5 x_o0_1_l5 x_o0_2_l5 x_o0_3_l5 x_o0_4_l5 x_o0_5_l5 x_o0_6_l5 x_o0_7_r11 x_o0_4_r16 = some o ∧ st.norm ([0, 3, 4, 5], [0]) = mk [(0, .v false [.mp 0 0 0]), (3, iv (x_0.blades.length : Int)), (4, iv b_4_l5), (5, bv (b_4_l5 == (x_o0_4_l5.length : Int)))] [(0, some ⟨0, 0, true, true, false, true, [⟨.imm, 0, 1, .row 1 (List.map eI x_o0_0_l5)⟩, ⟨.imm, 0, 0, .sc (.int .i64 x_o0_1_l5)⟩, ⟨.imm, 0, 0, .sc (.int .i64 x_o0_2_l5)⟩, ⟨.sh, 0, 0, .row 1 (List.map eI x_o0_3_l5)⟩, ⟨.sh, 0, 0, .row 1 (List.map eI x_o0_4_r16)⟩, ⟨.imm, 0, 0, .sc (.int .i64 (w64 (x_o0_5_l5 + 1)))⟩, ⟨.imm, 0, 0, .sc (.int .i64 x_o0_6_l5)⟩, ⟨.imm, 0, 0, .sc (.bool x_o0_7_r11)⟩]⟩)]) ?_ ?_
                    · rintro st ⟨x_o0_4_r16, h, hst⟩
                      unfold spec_l16Search_run_k16 at h
                      refine Unw.seq ?_
                      refine Go.seq ?_
                      obtain ⟨x103, hx103, h⟩ := bs h
                      obtain ⟨x110, hx110, h⟩ := bs h
                      obtain ⟨x113, hx113, h⟩ := bs h
                      refine Go.dr c112 rfl rfl rfl hst (mk [(0, .v false [.mp 0 0 0]), (3, iv (x_0.blades.length : Int)), (4, iv b_4_l5), (5, bv (b_4_l5 == (x_o0_4_l5.length : Int)))] [(0, some ⟨0, 0, true, true, false, true, [⟨.imm, 0, 1, .row 1 (List.map eI x_o0_0_l5)⟩, ⟨.imm, 0, 0, .sc (.int .i64 x_o0_1_l5)⟩, ⟨.imm, 0, 0, .sc (.int .i64 x_o0_2_l5)⟩, ⟨.sh, 0, 0, .row 1 (List.map eI x_o0_3_l5)⟩, ⟨.sh, 0, 0, .row 1 (List.map eI (x_o0_4_r16.set b_4_l5.toNat (w64 (x103 - x110))))⟩, ⟨.imm, 0, 0, .sc (.int .i64 (w64 (x_o0_5_l5 + 1)))⟩, ⟨.imm, 0, 0, .sc (.int .i64 x_o0_6_l5)⟩, ⟨.imm, 0, 0, .sc (.bool x_o0_7_r11)⟩]⟩)]) (sT rfl (dN z112 rfl (oMv rfl rfl)) <| sT rfl (dN z112 rfl (oNl rfl rfl rfl)) <| sT rfl (dN z112 rfl (oFA (r' := .mp 0 0 4) rfl fF162_4 rfl rfl)) <| sT rfl (dN z112 rfl (oLd (cs := [.own 0 0 4]) rfl tF27 rfl rfl)) <| sT rfl (dN z112 rfl (oMv rfl rfl)) <| sT rfl (dN z112 rfl (oIAO rfl hx103 sF27 rfl rfl rfl rfl)) <| sT rfl (dN z112 rfl (oLdE (cs := [.im 0 _]) rfl tF2 rfl rfl rfl (fun e => nomatch e) (rd_get hx103) rfl rfl)) <| sT rfl (dN z112 rfl (oMv rfl rfl)) <| sT rfl (dN z112 rfl (oNl rfl rfl rfl)) <| sT rfl (dN z112 rfl (oFA (r' := .mp 0 0 0) rfl fF162_0 rfl rfl)) <| sT rfl (dN z112 rfl (oLd (cs := [.im 1 _]) rfl tF27 rfl rfl)) <| sT rfl (dN z112 rfl (oMv rfl rfl)) <| sT rfl (dN z112 rfl (oIAI rfl hx110 sF27 rfl rfl)) <| sT rfl (dN z112 rfl (oLd (cs := [.im 1 _]) rfl tF2 rfl rfl)) <| sT rfl (dN z112 rfl (oBi rfl rfl rfl rfl)) <| sT rfl (dN z112 rfl (oIAO rfl hx113 sF27 rfl rfl rfl rfl)) <| sS (dN z112 rfl (oStE (v' := (w64 (x103 - x110))) tF2 rfl rfl rfl (fxI fx0) rfl rfl (rd_get hx113) rfl)) trivial (sD (by kernel_rfl))) ?_
                      refine Unw.seq ?_
                      refine Go.seq ?_
                      obtain ⟨x121, hx121, h⟩ := bs h
                      refine Go.r0 c112 rfl rfl (sq z112 (oMv rfl rfl) <| sq z112 (oMv rfl rfl) <| sq z112 (oNl rfl rfl rfl) <| sq z112 (oFA (r' := .mp 0 0 3) rfl fF162_3 rfl rfl) <| sq z112 (oLd (cs := [.own 0 0 3]) rfl tF27 rfl rfl) <| sq z112 (oMv rfl rfl) <| sq z112 (oBS (es := List.map eI ([b_4_l5] : List Int)) rfl sF27 rfl (ptC rfl (fxI fx0) rfl pt0) (flat0 rfl fun _ => rfl)) <| sq z112 (oApO (en := eI) (M := ([b_4_l5] : List Int)) rfl hx121 rfl sF27 rfl rfl uF27 (.inl ⟨_, rfl⟩) rfl rfl rfl rfl (el_own rfl rfl) (flat0 rfl fun _ => rfl)) <| sq z112 (oNl rfl rfl rfl) <| sq z112 (oFA (r' := .mp 0 0 3) rfl fF162_3 rfl rfl) <| sq z112 (oSt tF27 rfl rfl rfl (tkO rfl rfl tk0) rfl rfl rfl) <| nl) ?_
                      refine Unw.seq ?_
                      refine Go.seq ?_
                      refine Go.seq ?_
                      obtain ⟨x125, hx125, h⟩ := bs h
                      refine Go.r1 c112 rfl rfl (st1 := mk [(0, .v false [.mp 0 0 0]), (3, iv (x_0.blades.length : Int)), (4, iv b_4_l5), (5, bv (b_4_l5 == (x_o0_4_l5.length : Int)))] [(0, some ⟨0, 0, true, true, false, true, [⟨.imm, 0, 1, .row 1 (List.map eI x_o0_0_l5)⟩, ⟨.imm, 0, 0, .sc (.int .i64 x_o0_1_l5)⟩, ⟨.imm, 0, 0, .sc (.int .i64 x_o0_2_l5)⟩, ⟨.sh, 0, 0, .row 1 (List.map eI x121)⟩, ⟨.sh, 0, 0, .row 1 (List.map eI (x_o0_4_r16.set b_4_l5.toNat (w64 (x103 - x110))))⟩, ⟨.imm, 0, 0, .sc (.int .i64 (w64 (x_o0_5_l5 + 1)))⟩, ⟨.imm, 0, 0, .sc (.int .i64 x_o0_6_l5)⟩, ⟨.imm, 0, 0, .sc (.bool x_o0_7_r11)⟩]⟩)]) (by kernel_rfl) (sq z112 (oMv rfl rfl) <| sq z112 (oCa (xs := [.v false [.mp 0 0 0]]) (vs := [(false, [.im 0 _])]) (v := .v false [.im 0 _]) (ih hx125) (.inl rfl) rfl kF112_159 rfl (ppPx (ob' := ⟨0, 0, true, true, false, true, [⟨.imm, 0, 1, .row 1 (List.map eI x_o0_0_l5)⟩, ⟨.imm, 0, 0, .sc (.int .i64 x_o0_1_l5)⟩, ⟨.imm, 0, 0, .sc (.int .i64 x_o0_2_l5)⟩, ⟨.sh, 0, 0, .row 1 (List.map eI x121)⟩, ⟨.sh, 0, 0, .row 1 (List.map eI (x_o0_4_r16.set b_4_l5.toNat (w64 (x103 - x110))))⟩, ⟨.imm, 0, 0, .sc (.int .i64 (w64 (x_o0_5_l5 + 1)))⟩, ⟨.imm, 0, 0, .sc (.int .i64 x_o0_6_l5)⟩, ⟨.imm, 0, 0, .sc (.bool x_o0_7_r11)⟩]⟩) rfl rfl rfl (by kernel_rfl) pp0) rfl rfl (pbPx (ob' := ⟨0, 1, true, true, false, true, [⟨.imm, 1, 1, .row 1 (List.map eI x125.2.wears)⟩, ⟨.imm, 1, 0, .sc (.int .i64 x125.2.life)⟩, ⟨.imm, 1, 0, .sc (.int .i64 x125.2.most)⟩, ⟨.sh, 1, 0, .row 1 (List.map eI x125.2.blades)⟩, ⟨.sh, 1, 0, .row 1 (List.map eI x125.2.left)⟩, ⟨.imm, 1, 0, .sc (.int .i64 x125.2.nodes)⟩, ⟨.imm, 1, 0, .sc (.int .i64 x125.2.budget)⟩, ⟨.imm, 1, 0, .sc (.bool x125.2.full)⟩]⟩) rfl rfl (by kernel_rfl) pb0) rfl rfl rfl) <| nl) ?_
                      refine Unw.seq ?_
                      by_cases hc38 : x125.1 = true
                      · rw [if_pos hc38] at h
                        refine Go.condT rfl (Iff.rfl.2 hc38) ?_
                        refine Go.seq ?_
                        refine Go.r1 c112 rfl rfl (st1 := mk [] [(0, some ⟨0, 0, true, true, false, true, [⟨.imm, 0, 1, .row 1 (List.map eI x125.2.wears)⟩, ⟨.imm, 0, 0, .sc (.int .i64 x125.2.life)⟩, ⟨.imm, 0, 0, .sc (.int .i64 x125.2.most)⟩, ⟨.sh, 0, 0, .row 1 (List.map eI x125.2.blades)⟩, ⟨.sh, 0, 0, .row 1 (List.map eI x125.2.left)⟩, ⟨.imm, 0, 0, .sc (.int .i64 x125.2.nodes)⟩, ⟨.imm, 0, 0, .sc (.int .i64 x125.2.budget)⟩, ⟨.imm, 0, 0, .sc (.bool x125.2.full)⟩]⟩)]) (by kernel_rfl) (sq z112 (oAsI rfl rfl) <| nl) ?_
                        refine Unw.seq ?_
                        refine Go.ret (Unw.ret ?_)
                        cases h
                        exact ⟨rfl, (fin_of rfl rF112 rfl (by kernel_rfl))⟩
                      · rw [if_neg hc38] at h
                        refine Go.condF rfl (byF Iff.rfl hc38) ?_
                        refine Go.skip ?_
                        refine Unw.seq ?_
                        refine Go.seq ?_
                        obtain ⟨x132, hx132, h⟩ := bs h
                        refine Go.r1 c112 rfl rfl (st1 := mk [(0, .v false [.mp 0 0 0]), (3, iv (x_0.blades.length : Int)), (4, iv b_4_l5), (5, bv (b_4_l5 == (x_o0_4_l5.length : Int)))] [(0, some ⟨0, 0, true, true, false, true, [⟨.imm, 0, 1, .row 1 (List.map eI x125.2.wears)⟩, ⟨.imm, 0, 0, .sc (.int .i64 x125.2.life)⟩, ⟨.imm, 0, 0, .sc (.int .i64 x125.2.most)⟩, ⟨.sh, 0, 0, .row 1 (List.map eI x125.2.blades)⟩, ⟨.sh, 0, 0, .row 1 (List.map eI x125.2.left)⟩, ⟨.imm, 0, 0, .sc (.int .i64 x125.2.nodes)⟩, ⟨.imm, 0, 0, .sc (.int .i64 x125.2.budget)⟩, ⟨.imm, 0, 0, .sc (.bool x125.2.full)⟩]⟩)]) (by kernel_rfl) (sq z112 (oMv rfl rfl) <| sq z112 (oMv rfl rfl) <| sq z112 (oNl rfl rfl rfl) <| sq z112 (oFA (r' := .mp 0 0 3) rfl fF162_3 rfl rfl) <| sq z112 (oLd (cs := [.own 0 0 3]) rfl tF27 rfl rfl) <| sq z112 (oMv rfl rfl) <| sq z112 (oSlO rfl hx132 sF27 rfl rfl rfl bn0 (bn1 rfl) rfl rfl rfl) <| sq z112 (oNl rfl rfl rfl) <| sq z112 (oFA (r' := .mp 0 0 3) rfl fF162_3 rfl rfl) <| sq z112 (oSt tF27 rfl rfl rfl (tkSM rfl rfl tk0) rfl rfl rfl) <| nl) ?_
                        refine Unw.seq ?_
                        refine Go.seq ?_
                        obtain ⟨x140, hx140, h⟩ := bs h
                        obtain ⟨x147, hx147, h⟩ := bs h
                        obtain ⟨x150, hx150, h⟩ := bs h
                        refine Go.dr c112 rfl rfl rfl (st1 := mk [(0, .v false [.mp 0 0 0]), (3, iv (x_0.blades.length : Int)), (4, iv b_4_l5), (5, bv (b_4_l5 == (x_o0_4_l5.length : Int)))] [(0, some ⟨0, 0, true, true, false, true, [⟨.imm, 0, 1, .row 1 (List.map eI x125.2.wears)⟩, ⟨.imm, 0, 0, .sc (.int .i64 x125.2.life)⟩, ⟨.imm, 0, 0, .sc (.int .i64 x125.2.most)⟩, ⟨.sh, 0, 0, .row 1 (List.map eI ((x125.2.blades.take ((x_0.blades.length : Int).toNat)).drop 0))⟩, ⟨.sh, 0, 0, .row 1 (List.map eI x125.2.left)⟩, ⟨.imm, 0, 0, .sc (.int .i64 x125.2.nodes)⟩, ⟨.imm, 0, 0, .sc (.int .i64 x125.2.budget)⟩, ⟨.imm, 0, 0, .sc (.bool x125.2.full)⟩]⟩)]) (by kernel_rfl) (mk [(0, .v false [.mp 0 0 0]), (3, iv (x_0.blades.length : Int)), (4, iv b_4_l5), (5, bv (b_4_l5 == (x_o0_4_l5.length : Int)))] [(0, some ⟨0, 0, true, true, false, true, [⟨.imm, 0, 1, .row 1 (List.map eI x125.2.wears)⟩, ⟨.imm, 0, 0, .sc (.int .i64 x125.2.life)⟩, ⟨.imm, 0, 0, .sc (.int .i64 x125.2.most)⟩, ⟨.sh, 0, 0, .row 1 (List.map eI ((x125.2.blades.take ((x_0.blades.length : Int).toNat)).drop 0))⟩, ⟨.sh, 0, 0, .row 1 (List.map eI (x125.2.left.set b_4_l5.toNat (w64 (x140 + x147))))⟩, ⟨.imm, 0, 0, .sc (.int .i64 x125.2.nodes)⟩, ⟨.imm, 0, 0, .sc (.int .i64 x125.2.budget)⟩, ⟨.imm, 0, 0, .sc (.bool x125.2.full)⟩]⟩)]) (sT rfl (dN z112 rfl (oMv rfl rfl)) <| sT rfl (dN z112 rfl (oNl rfl rfl rfl)) <| sT rfl (dN z112 rfl (oFA (r' := .mp 0 0 4) rfl fF162_4 rfl rfl)) <| sT rfl (dN z112 rfl (oLd (cs := [.own 0 0 4]) rfl tF27 rfl rfl)) <| sT rfl (dN z112 rfl (oMv rfl rfl)) <| sT rfl (dN z112 rfl (oIAO rfl hx140 sF27 rfl rfl rfl rfl)) <| sT rfl (dN z112 rfl (oLdE (cs := [.im 0 _]) rfl tF2 rfl rfl rfl (fun e => nomatch e) (rd_get hx140) rfl rfl)) <| sT rfl (dN z112 rfl (oMv rfl rfl)) <| sT rfl (dN z112 rfl (oNl rfl rfl rfl)) <| sT rfl (dN z112 rfl (oFA (r' := .mp 0 0 0) rfl fF162_0 rfl rfl)) <| sT rfl (dN z112 rfl (oLd (cs := [.im 1 _]) rfl tF27 rfl rfl)) <| sT rfl (dN z112 rfl (oMv rfl rfl)) <| sT rfl (dN z112 rfl (oIAI rfl hx147 sF27 rfl rfl)) <| sT rfl (dN z112 rfl (oLd (cs := [.im 1 _]) rfl tF2 rfl rfl)) <| sT rfl (dN z112 rfl (oBi rfl rfl rfl rfl)) <| sT rfl (dN z112 rfl (oIAO rfl hx150 sF27 rfl rfl rfl rfl)) <| sS (dN z112 rfl (oStE (v' := (w64 (x140 + x147))) tF2 rfl rfl rfl (fxI fx0) rfl rfl (rd_get hx150) rfl)) trivial (sD (by kernel_rfl))) ?_
                        refine Unw.seq ?_
                        refine Go.seq ?_
                        refine Go.r0 c112 rfl rfl (sq z112 (oMv rfl rfl) <| nl) ?_
                        refine Unw.seq ?_
                        by_cases hc39 : b_4_l5 = (x_o0_4_l5.length : Int)
                        · rw [if_pos hc39] at h
                          refine Go.condT rfl (iEq.2 hc39) ?_
                          obtain ⟨x158, hx158, h⟩ := bs h
                          refine Go.r0 c112 rfl rfl (sq z112 (oMv rfl rfl) <| sq z112 (oMv rfl rfl) <| sq z112 (oNl rfl rfl rfl) <| sq z112 (oFA (r' := .mp 0 0 4) rfl fF162_4 rfl rfl) <| sq z112 (oLd (cs := [.own 0 0 4]) rfl tF27 rfl rfl) <| sq z112 (oMv rfl rfl) <| sq z112 (oSlO rfl hx158 sF27 rfl rfl rfl bn0 (bn1 rfl) rfl rfl rfl) <| sq z112 (oNl rfl rfl rfl) <| sq z112 (oFA (r' := .mp 0 0 4) rfl fF162_4 rfl rfl) <| sq z112 (oSt tF27 rfl rfl rfl (tkSM rfl rfl tk0) rfl rfl rfl) <| nl) ?_
                          refine Unw.blk ?_
                          exact K32 _ ⟨x125.2.wears, x125.2.life, x125.2.most, ((x125.2.blades.take ((x_0.blades.length : Int).toNat)).drop 0), (((x125.2.left.set b_4_l5.toNat (w64 (x140 + x147))).take b_4_l5.toNat).drop 0), x125.2.nodes, x125.2.budget, x125.2.full, h, (by kernel_rfl)⟩
                        · rw [if_neg hc39] at h
                          refine Go.condF rfl (byF iEq hc39) ?_
                          refine Go.skip ?_
                          refine Unw.blk ?_
                          exact K32 _ ⟨x125.2.wears, x125.2.life, x125.2.most, ((x125.2.blades.take ((x_0.blades.length : Int).toNat)).drop 0), (x125.2.left.set b_4_l5.toNat (w64 (x140 + x147))), x125.2.nodes, x125.2.budget, x125.2.full, h, (by kernel_rfl)⟩
                    · intro K40
                      by_cases hc41 : b_4_l5 = (x_o0_4_l5.length : Int)
                      · rw [if_pos hc41] at h
                        refine Go.condT rfl (iEq.2 hc41) ?_
                        obtain ⟨x95, hx95, h⟩ := bs h
                        refine Go.dr c112 rfl rfl rfl rfl (mk [(0, .v false [.mp 0 0 0]), (3, iv (x_0.blades.length : Int)), (4, iv b_4_l5), (5, bv (b_4_l5 == (x_o0_4_l5.length : Int)))] [(0, some ⟨0, 0, true, true, false, true, [⟨.imm, 0, 1, .row 1 (List.map eI x_o0_0_l5)⟩, ⟨.imm, 0, 0, .sc (.int .i64 x_o0_1_l5)⟩, ⟨.imm, 0, 0, .sc (.int .i64 x_o0_2_l5)⟩, ⟨.sh, 0, 0, .row 1 (List.map eI x_o0_3_l5)⟩, ⟨.sh, 0, 0, .row 1 (List.map eI x95)⟩, ⟨.imm, 0, 0, .sc (.int .i64 (w64 (x_o0_5_l5 + 1)))⟩, ⟨.imm, 0, 0, .sc (.int .i64 x_o0_6_l5)⟩, ⟨.imm, 0, 0, .sc (.bool x_o0_7_r11)⟩]⟩)]) (sT rfl (dN z112 rfl (oMv rfl rfl)) <| sT rfl (dN z112 rfl (oMv rfl rfl)) <| sT rfl (dN z112 rfl (oMv rfl rfl)) <| sT rfl (dN z112 rfl (oNl rfl rfl rfl)) <| sT rfl (dN z112 rfl (oFA (r' := .mp 0 0 1) rfl fF162_1 rfl rfl)) <| sT rfl (dN z112 rfl (oLd (cs := [.im 0 _]) rfl tF2 rfl rfl)) <| sK (O := [0]) rfl rfl rfl (dN z112 rfl (oNl rfl rfl rfl)) <| sK (O := [0]) rfl rfl rfl (dN z112 rfl (oFA (r' := .mp 0 0 4) rfl fF162_4 rfl rfl)) <| sK (O := [0]) rfl rfl rfl (dN z112 rfl (oLd (cs := [.own 0 0 4]) rfl tF27 rfl rfl)) <| sS (dN z112 rfl (oBS (es := List.map eI ([x_o0_1_l5] : List Int)) rfl sF27 rfl (ptC rfl (fxI fx0) rfl pt0) (flat0 rfl fun _ => rfl))) (kY ⟨rfl, trivial⟩ (kY ⟨rfl, trivial⟩ (kY ⟨rfl, trivial⟩ trivial))) (sS (dN z112 rfl (oApO (en := eI) (M := ([x_o0_1_l5] : List Int)) rfl hx95 rfl sF27 rfl rfl uF27 (.inl ⟨_, rfl⟩) rfl rfl rfl rfl (el_own rfl rfl) (flat0 rfl fun _ => rfl))) (kN rfl (kN rfl (kN rfl trivial))) (sT rfl (dN z112 rfl (oNl rfl rfl rfl)) <| sT rfl (dN z112 rfl (oFA (r' := .mp 0 0 4) rfl fF162_4 rfl rfl)) <| sS (dN z112 rfl (oSt tF27 rfl rfl rfl (tkO rfl rfl tk0) rfl rfl rfl)) (kN rfl (kN rfl (kN rfl trivial))) (sD (by kernel_rfl))))) ?_
                        exact K40 _ ⟨x95, h, (by kernel_rfl)⟩
                      · rw [if_neg hc41] at h
                        refine Go.condF rfl (byF iEq hc41) ?_
                        refine Go.skip ?_
                        exact K40 _ ⟨x_o0_4_l5, h, (by kernel_rfl)⟩
                · intro K42
                  by_cases hc43 : x_o0_5_l5 = x_o0_6_l5
                  · rw [if_pos hc43] at h
                    refine Go.condT rfl (iEq.2 hc43) ?_
                    refine Go.r0 c112 rfl rfl (sq z112 (oMv rfl rfl) <| sq z112 (oNl rfl rfl rfl) <| sq z112 (oFA (r' := .mp 0 0 7) rfl fF162_7 rfl rfl) <| sq z112 (oSt tF4 rfl rfl rfl (tkI tk0) rfl rfl rfl) <| nl) ?_
                    exact K42 _ ⟨true, h, (by kernel_rfl)⟩
                  · rw [if_neg hc43] at h
                    refine Go.condF rfl (byF iEq hc43) ?_
                    refine Go.skip ?_
                    exact K42 _ ⟨x_o0_7_l5, h, (by kernel_rfl)⟩
        · rw [if_neg hc23] at h
          refine Go.condF rfl (byF (iAnd iDec iDec) hc23) ?_
          refine Go.exit ?_
          refine Unw.seqx ?_
          refine Unw.nil ?_
          cases h
          exact ⟨rfl, (by kernel_rfl)⟩
    · rintro ⟨e, st⟩ hp
      rcases o with ⟨x_o0_0_e0_5, x_o0_1_e0_5, x_o0_2_e0_5, x_o0_3_e0_5, x_o0_4_e0_5, x_o0_5_e0_5, x_o0_6_e0_5, x_o0_7_e0_5⟩ | r2
      · dsimp only at h
        obtain ⟨he, hst⟩ := hp
        obtain rfl : e = .exit 0 := he
        refine Unw.blkx ?_
        refine Unw.seq ?_
        refine Go.seq ?_
        refine Go.r1 c112 rfl rfl hst (sq z112 (oAsI rfl rfl) <| nl) ?_
        refine Unw.seq ?_
        refine Go.ret (Unw.ret ?_)
        cases h
        exact Fin_ret (fin_of rfl rF112 rfl (by kernel_rfl))
      · dsimp only at h
        obtain ⟨he, hfin⟩ := hp
        obtain rfl : e = .ret := he
        cases h
        exact Unw.ret (Fin_ret hfin)
theorem L_spec_l16Search_run {x_0 : S_l16Search} {r : (Bool × S_l16Search)} (h : spec_l16Search_run x_0 = some r) : FL Try.prog cfg 112 [.ptr true [(.imm, .row 1 (List.map eI x_0.wears)), (.imm, .sc (.int .i64 x_0.life)), (.imm, .sc (.int .i64 x_0.most)), (.sh, .row 1 (List.map eI x_0.blades)), (.sh, .row 1 (List.map eI x_0.left)), (.imm, .sc (.int .i64 x_0.nodes)), (.imm, .sc (.int .i64 x_0.budget)), (.imm, .sc (.bool x_0.full))]] = some ([(false, [.im 0 (.sc (.bool r.1))])], [.ptr true [(.imm, .row 1 (List.map eI r.2.wears)), (.imm, .sc (.int .i64 r.2.life)), (.imm, .sc (.int .i64 r.2.most)), (.sh, .row 1 (List.map eI r.2.blades)), (.sh, .row 1 (List.map eI r.2.left)), (.imm, .sc (.int .i64 r.2.nodes)), (.imm, .sc (.int .i64 r.2.budget)), (.imm, .sc (.bool r.2.full))]]) := by
  unfold spec_l16Search_run at h
  obtain ⟨n, hn⟩ := fixO_iter h
  clear h
  induction n generalizing x_0 r with
  | zero => cases hn
  | succ n ihn => exact L_spec_l16Search_run_F (self := iterO _ n) (fun h => ihn h) hn
theorem L_spec_l00Own {list_0 : (List Int)} {r : (List Int)} (h : spec_l00Own list_0 = some r) : FL Try.prog cfg 105 [.im 2 false [.row 1 (List.map eI list_0)]] = some ([(false, [.ow 0 1 (List.map eI r)])], []) := by
  unfold spec_l00Own at h
  refine FL_goS (A := [(0, .v false [.im 2 (.row 1 (List.map eI list_0))])]) (B := [(0, none)]) (nt := 6) rfl rfl Try.func105 rfl rfl rfl rfl ?_
  refine Go.seq ?_
  refine Go.r0 c105 rfl rfl (sq z105 (oAsN rfl rfl eF27) <| nl) ?_
  refine Unw.seq ?_
  refine Go.seq ?_
  obtain ⟨x5, hx5, h⟩ := bs h
  refine Go.r0 c105 rfl rfl (sq z105 (oBS (es := List.map eI ([] : List Int)) rfl sF27 rfl pt0 (flat0 rfl fun _ => rfl)) <| sq z105 (oMv rfl rfl) <| sq z105 (oApO (en := eI) (M := list_0) rfl hx5 rfl sF27 rfl rfl uF27 (.inl ⟨_, rfl⟩) rfl rfl rfl rfl el_im (flat0 rfl fun _ => rfl)) <| sq z105 (oAsO rfl rfl rfl rfl rfl) <| nl) ?_
  refine Unw.seq ?_
  refine Go.ret (Unw.ret ?_)
  cases h
  exact Fin_ret (fin_of rfl rF105 rfl (by kernel_rfl))
theorem L_spec_FewestBlades {b_0 : S_Blade} {list_1 : (List S_Cutting)} {budget_2 : Int} {r : ((List Int) × Int × Int)} (h : spec_FewestBlades b_0 list_1 budget_2 = some r) : FL Try.prog cfg 34 [.im 2 true [.sc (.string b_0.Name), .sc (.int .i64 b_0.Life), .sc (.int .i64 b_0.Price), .sc (.int .i64 b_0.Speed)], .im 2 false [.row 3 (List.map e_S_Cutting list_1)], .im 2 false [.sc (.int .i64 budget_2)]] = some ([(false, [.ow 0 1 (List.map eI r.1)]), (false, [.im 0 (.sc (.int .i64 r.2.1))]), (false, [.im 0 (.sc (.int .i64 r.2.2))])], []) := by
  unfold spec_FewestBlades at h
  refine FL_goS (A := [(0, .v true [.im 2 (.sc (.string b_0.Name)), .im 2 (.sc (.int .i64 b_0.Life)), .im 2 (.sc (.int .i64 b_0.Price)), .im 2 (.sc (.int .i64 b_0.Speed))]), (1, .v false [.im 2 (.row 3 (List.map e_S_Cutting list_1))]), (2, .v false [.im 2 (.sc (.int .i64 budget_2))])]) (B := [(0, none), (1, none), (2, none)]) (nt := 53) rfl rfl Try.func34 rfl rfl rfl rfl ?_
  refine Go.seq ?_
  refine Go.r0 c34 rfl rfl (sq z34 (oBx rfl tF54 rfl (tkI (tkI (tkI (tkI tk0))))) <| sq z34 (oAsN rfl rfl eF27) <| sq z34 (oAsI rfl rfl) <| sq z34 (oAsI rfl rfl) <| nl) ?_
  refine Unw.seq ?_
  refine Go.seq ?_
  obtain ⟨x13, hx13, h⟩ := bs h
  refine Go.r0 c34 rfl rfl (sq z34 (oMv rfl rfl) <| sq z34 (oCa (xs := [.v false [.mp 3 0 0], .v false [.im 2 _]]) (vs := [(false, [.im 0 _])]) (v := .v false [.im 0 _]) (L_spec_l16Ask hx13) (.inl rfl) rfl kF110_158_56 rfl (ppC rfl (ppC rfl pp0)) rfl rfl pb0 rfl rfl rfl) <| sq z34 (oAsI rfl rfl) <| nl) ?_
  refine Unw.seq ?_
  refine Go.seq ?_
  refine Go.seq ?_
  obtain ⟨t_20_m2, hm15, h⟩ := bs h
  refine Go.rX c34 rfl rfl rfl (mk [(1, .v false [.im 2 (.row 3 (List.map e_S_Cutting list_1))]), (2, iv budget_2), (3, .v false [.mp 3 0 0]), (9, iv x13), (20, bv t_20_m2)] [(3, some ⟨0, 0, false, true, false, true, [⟨.imm, 0, 0, .sc (.string b_0.Name)⟩, ⟨.imm, 0, 0, .sc (.int .i64 b_0.Life)⟩, ⟨.imm, 0, 0, .sc (.int .i64 b_0.Price)⟩, ⟨.imm, 0, 0, .sc (.int .i64 b_0.Speed)⟩]⟩)]) ?_ ?_
  · by_cases hc1 : x13 = 0
    · rw [if_pos hc1] at hm15
      obtain ⟨x18, hx18, hm15⟩ := bs hm15
      cases hm15
      exact ⟨_, sq z34 (oMv rfl rfl) <| sq z34 (oBi rfl rfl rfl rfl) <| sq z34 (oMv rfl rfl) <| sgT z34 rfl rfl (iEq.2 hc1) (oMv rfl rfl) <| sgT z34 rfl rfl (iEq.2 hc1) (oCa (xs := [.v false [.im 2 _], .v false [.im 0 _], .v false [.im 0 _]]) (vs := [(false, [.im 0 _])]) (v := .v false [.im 0 _]) (L_spec_l00In hx18) (.inl rfl) rfl kF102_2_2_2 rfl (ppC rfl (ppC rfl (ppC rfl pp0))) rfl rfl pb0 rfl rfl rfl) <| sgT z34 rfl rfl (iEq.2 hc1) (oUn rfl rfl rfl) <| sq z34 (oPkT rfl rfl (iEq.2 hc1) rfl) <| nl, (by kernel_rfl)⟩
    · rw [if_neg hc1] at hm15
      cases hm15
      exact ⟨_, sq z34 (oMv rfl rfl) <| sq z34 (oBi rfl rfl rfl rfl) <| sq z34 (oMv rfl rfl) <| sgF rfl rfl (byF iEq hc1) rfl <| sgF rfl rfl (byF iEq hc1) rfl <| sgF rfl rfl (byF iEq hc1) rfl <| sq z34 (oPkF rfl rfl (byF iEq hc1) rfl) <| nl, (by kernel_rfl)⟩
  · refine Unw.seq ?_
    refine Go.join (fun st => ∃ code_9_r4, spec_FewestBlades_k4 b_0 budget_2 list_1 code_9_r4 = some r ∧ st.norm ([1, 2, 3, 9], [3]) = mk [(1, .v false [.im 2 (.row 3 (List.map e_S_Cutting list_1))]), (2, iv budget_2), (3, .v false [.mp 3 0 0]), (9, iv code_9_r4)] [(3, some ⟨0, 0, false, true, false, true, [⟨.imm, 0, 0, .sc (.string b_0.Name)⟩, ⟨.imm, 0, 0, .sc (.int .i64 b_0.Life)⟩, ⟨.imm, 0, 0, .sc (.int .i64 b_0.Price)⟩, ⟨.imm, 0, 0, .sc (.int .i64 b_0.Speed)⟩]⟩)]) ?_ ?_
    · rintro st ⟨code_9_r4, h, hst⟩
      unfold spec_FewestBlades_k4 at h
      refine Unw.seq ?_
      refine Go.seq ?_
      refine Go.seq ?_
      refine Go.r1 c34 rfl rfl hst (sq z34 (oMv rfl rfl) <| sq z34 (oBi rfl rfl rfl rfl) <| nl) ?_
      refine Unw.seq ?_
      by_cases hc3 : code_9_r4 ≠ 0
      · rw [if_pos hc3] at h
        refine Go.condT rfl (iNe.2 hc3) ?_
        refine Go.seq ?_
        refine Go.r0 c34 rfl rfl (sq z34 (oMv rfl rfl) <| sq z34 (oAsN rfl rfl eF27) <| sq z34 (oAsI rfl rfl) <| sq z34 (oAsI rfl rfl) <| nl) ?_
        refine Unw.seq ?_
        refine Go.ret (Unw.ret ?_)
        cases h
        exact Fin_ret (fin_of rfl rF34 rfl (by kernel_rfl))
      · rw [if_neg hc3] at h
        refine Go.condF rfl (byF iNe hc3) ?_
        refine Go.skip ?_
        refine Unw.seq ?_
        refine Go.seq ?_
        obtain ⟨x25, hx25, h⟩ := bs h
        refine Go.dr c34 rfl rfl rfl rfl (mk [(1, .v false [.im 2 (.row 3 (List.map e_S_Cutting list_1))]), (10, .v false [.mp 30 0 0])] [(30, some ⟨0, 0, false, true, false, true, [⟨.imm, 0, 0, .row 1 (List.map eI x25)⟩, ⟨.imm, 0, 0, .sc (.int .i64 b_0.Life)⟩, ⟨.imm, 0, 0, .sc (.int .i64 0)⟩, ⟨.sh, 0, 0, .row 1 (List.map eI ([] : List Int))⟩, ⟨.sh, 0, 0, .row 1 (List.map eI ([] : List Int))⟩, ⟨.imm, 0, 0, .sc (.int .i64 0)⟩, ⟨.imm, 0, 0, .sc (.int .i64 budget_2)⟩, ⟨.imm, 0, 0, .sc (.bool false)⟩]⟩)]) (sT rfl (dN z34 rfl (oMv rfl rfl)) <| sT rfl (dN z34 rfl (oFA (r' := .mp 3 0 1) rfl fF54_1 rfl rfl)) <| sT rfl (dN z34 rfl (oLd (cs := [.im 0 _]) rfl tF2 rfl rfl)) <| sT rfl (dN z34 rfl (oMv rfl rfl)) <| sS (dN z34 rfl (oCa (xs := [.v false [.im 2 _]]) (vs := [(false, [.im 0 _])]) (v := .v false [.im 0 _]) (L_spec_l16Wears hx25) (.inl rfl) rfl kF111_56 rfl (ppC rfl pp0) rfl rfl pb0 rfl rfl rfl)) trivial (sS (dN z34 rfl (oBu (cs := [.im 0 _, .im 0 _, .im 0 _, .nil, .nil, .im 0 _, .im 0 _, .im 0 _]) rfl bF162 rfl)) trivial (sS (dN z34 rfl (oBx rfl tF162 rfl (tkI (tkI (tkI (tkN (tkN (tkI (tkI (tkI tk0)))))))))) trivial (sS (dN z34 rfl (oAsP rfl rfl)) trivial (sD (by kernel_rfl)))))) ?_
        refine Unw.seq ?_
        refine Go.seq ?_
        refine Go.seq ?_
        refine Go.r0 c34 rfl rfl (sq z34 (oAsI rfl rfl) <| nl) ?_
        refine Unw.seq ?_
        refine Go.block ?_
        obtain ⟨o, hl, h⟩ := bs h
        refine Go.lp c34 rfl _ (fun (s : (Int × (List Int) × Int × Int × (List Int) × (List Int) × Int × Int × Bool)) => match s with | (m_11_l8, o_o30_0_l8, o_o30_1_l8, o_o30_2_l8, o_o30_3_l8, o_o30_4_l8, o_o30_5_l8, o_o30_6_l8, o_o30_7_l8) => mk [(1, .v false [.im 2 (.row 3 (List.map e_S_Cutting list_1))]), (10, .v false [.mp 30 0 0]), (11, iv m_11_l8)] [(30, some ⟨0, 0, false, true, false, true, [⟨.imm, 0, 0, .row 1 (List.map eI o_o30_0_l8)⟩, ⟨.imm, 0, 0, .sc (.int .i64 o_o30_1_l8)⟩, ⟨.imm, 0, 0, .sc (.int .i64 o_o30_2_l8)⟩, ⟨.sh, 0, 0, .row 1 (List.map eI o_o30_3_l8)⟩, ⟨.sh, 0, 0, .row 1 (List.map eI o_o30_4_l8)⟩, ⟨.imm, 0, 0, .sc (.int .i64 o_o30_5_l8)⟩, ⟨.imm, 0, 0, .sc (.int .i64 o_o30_6_l8)⟩, ⟨.imm, 0, 0, .sc (.bool o_o30_7_l8)⟩]⟩)]) (fun (o : (Unit ⊕ ((List Int) × Int × Int))) (p : Ex × St) => match o with | (.inl _) => p.1 = .exit 0 ∧ p.2.norm ([], []) = mk [] [] | (.inr r2) => p.1 = .ret ∧ fin Try.prog cfg 34 Try.f34 [.im 2 true [.sc (.string b_0.Name), .sc (.int .i64 b_0.Life), .sc (.int .i64 b_0.Price), .sc (.int .i64 b_0.Speed)], .im 2 false [.row 3 (List.map e_S_Cutting list_1)], .im 2 false [.sc (.int .i64 budget_2)]] p.2 = some ([(false, [.ow 0 1 (List.map eI r2.1)]), (false, [.im 0 (.sc (.int .i64 r2.2.1))]), (false, [.im 0 (.sc (.int .i64 r2.2.2))])], [])) hl (by kernel_rfl) ?_ ?_ ?_
        · intro o p hp e
          rcases o with u | r2 <;> exact nomatch (hp.1.symm.trans e)
        · rintro ⟨m_11_l8, o_o30_0_l8, o_o30_1_l8, o_o30_2_l8, o_o30_3_l8, o_o30_4_l8, o_o30_5_l8, o_o30_6_l8, o_o30_7_l8⟩ o h
          unfold spec_FewestBlades_l8 at h
          dsimp only at h
          refine Go.seq ?_
          refine Go.seq ?_
          refine Go.r0 c34 rfl rfl (sq z34 (oMv rfl rfl) <| sq z34 (oMv rfl rfl) <| sq z34 (oLnI rfl rfl uF56 rfl) <| sq z34 (oBi rfl rfl rfl rfl) <| nl) ?_
          refine Unw.seq ?_
          by_cases hc10 : m_11_l8 ≤ (list_1.length : Int)
          · rw [if_pos hc10] at h
            refine Go.condT rfl (iDec.2 hc10) ?_
            refine Go.skip ?_
            refine Unw.seq ?_
            refine Go.seq ?_
            refine Go.block ?_
            refine Go.seq ?_
            refine Go.r0 c34 rfl rfl (sq z34 (oMv rfl rfl) <| sq z34 (oMv rfl rfl) <| sq z34 (oNl rfl rfl rfl) <| sq z34 (oFA (r' := .mp 30 0 2) rfl fF162_2 rfl rfl) <| sq z34 (oSt tF2 rfl rfl rfl (tkI tk0) rfl rfl rfl) <| nl) ?_
            refine Unw.seq ?_
            refine Go.seq ?_
            refine Go.seq ?_
            obtain ⟨x42, hx42, h⟩ := bs h
            refine Go.r1 c34 rfl rfl (st1 := mk [(1, .v false [.im 2 (.row 3 (List.map e_S_Cutting list_1))]), (10, .v false [.mp 30 0 0]), (11, iv m_11_l8)] [(30, some ⟨0, 0, false, true, false, true, [⟨.imm, 0, 0, .row 1 (List.map eI o_o30_0_l8)⟩, ⟨.imm, 0, 0, .sc (.int .i64 o_o30_1_l8)⟩, ⟨.imm, 0, 0, .sc (.int .i64 m_11_l8)⟩, ⟨.sh, 0, 0, .row 1 (List.map eI o_o30_3_l8)⟩, ⟨.sh, 0, 0, .row 1 (List.map eI o_o30_4_l8)⟩, ⟨.imm, 0, 0, .sc (.int .i64 o_o30_5_l8)⟩, ⟨.imm, 0, 0, .sc (.int .i64 o_o30_6_l8)⟩, ⟨.imm, 0, 0, .sc (.bool o_o30_7_l8)⟩]⟩)]) (by kernel_rfl) (sq z34 (oMv rfl rfl) <| sq z34 (oCa (xs := [.v false [.mp 30 0 0]]) (vs := [(false, [.im 0 _])]) (v := .v false [.im 0 _]) (L_spec_l16Search_run hx42) (.inl rfl) rfl kF112_159 rfl (ppPx (ob' := ⟨0, 0, false, true, false, true, [⟨.imm, 0, 0, .row 1 (List.map eI o_o30_0_l8)⟩, ⟨.imm, 0, 0, .sc (.int .i64 o_o30_1_l8)⟩, ⟨.imm, 0, 0, .sc (.int .i64 m_11_l8)⟩, ⟨.sh, 0, 0, .row 1 (List.map eI o_o30_3_l8)⟩, ⟨.sh, 0, 0, .row 1 (List.map eI o_o30_4_l8)⟩, ⟨.imm, 0, 0, .sc (.int .i64 o_o30_5_l8)⟩, ⟨.imm, 0, 0, .sc (.int .i64 o_o30_6_l8)⟩, ⟨.imm, 0, 0, .sc (.bool o_o30_7_l8)⟩]⟩) rfl rfl rfl (by kernel_rfl) pp0) rfl rfl (pbPx (ob' := ⟨0, 1, false, true, false, true, [⟨.imm, 1, 0, .row 1 (List.map eI x42.2.wears)⟩, ⟨.imm, 1, 0, .sc (.int .i64 x42.2.life)⟩, ⟨.imm, 1, 0, .sc (.int .i64 x42.2.most)⟩, ⟨.sh, 1, 0, .row 1 (List.map eI x42.2.blades)⟩, ⟨.sh, 1, 0, .row 1 (List.map eI x42.2.left)⟩, ⟨.imm, 1, 0, .sc (.int .i64 x42.2.nodes)⟩, ⟨.imm, 1, 0, .sc (.int .i64 x42.2.budget)⟩, ⟨.imm, 1, 0, .sc (.bool x42.2.full)⟩]⟩) rfl rfl (by kernel_rfl) pb0) rfl rfl rfl) <| nl) ?_
            refine Unw.seq ?_
            by_cases hc11 : x42.1 = true
            · rw [if_pos hc11] at h
              refine Go.condT rfl (Iff.rfl.2 hc11) ?_
              refine Go.seq ?_
              obtain ⟨x47, hx47, h⟩ := bs h
              refine Go.r1 c34 rfl rfl (st1 := mk [(10, .v false [.mp 30 0 0]), (11, iv m_11_l8)] [(30, some ⟨0, 0, false, true, false, true, [⟨.imm, 0, 0, .row 1 (List.map eI x42.2.wears)⟩, ⟨.imm, 0, 0, .sc (.int .i64 x42.2.life)⟩, ⟨.imm, 0, 0, .sc (.int .i64 x42.2.most)⟩, ⟨.sh, 0, 0, .row 1 (List.map eI x42.2.blades)⟩, ⟨.sh, 0, 0, .row 1 (List.map eI x42.2.left)⟩, ⟨.imm, 0, 0, .sc (.int .i64 x42.2.nodes)⟩, ⟨.imm, 0, 0, .sc (.int .i64 x42.2.budget)⟩, ⟨.imm, 0, 0, .sc (.bool x42.2.full)⟩]⟩)]) (by kernel_rfl) (sq z34 (oMv rfl rfl) <| sq z34 (oNl rfl rfl rfl) <| sq z34 (oFA (r' := .mp 30 0 3) rfl fF162_3 rfl rfl) <| sq z34 (oLd (cs := [.own 30 0 3]) rfl tF27 rfl rfl) <| sq z34 (oCr (xs := [.v false [.own 30 0 3]]) (vs := [(false, [.own 47 0 0])]) (v := .v false [.own 47 0 0]) (c := ⟨.sh, 0, _⟩) (cs := []) (L_spec_l00Own hx47) (.inl rfl) rfl kF105_27 rfl (ppC rfl pp0) rfl rfl pb0 rfl rfl rfl) <| sq z34 (oMv rfl rfl) <| sq z34 (oAsO rfl rfl rfl rfl rfl) <| sq z34 (oAsI rfl rfl) <| sq z34 (oAsI rfl rfl) <| nl) ?_
              refine Unw.seq ?_
              refine Go.ret (Unw.ret ?_)
              cases h
              exact ⟨rfl, (fin_of rfl rF34 rfl (by kernel_rfl))⟩
            · rw [if_neg hc11] at h
              refine Go.condF rfl (byF Iff.rfl hc11) ?_
              refine Go.skip ?_
              refine Unw.seq ?_
              refine Go.seq ?_
              refine Go.r1 c34 rfl rfl (st1 := mk [(1, .v false [.im 2 (.row 3 (List.map e_S_Cutting list_1))]), (10, .v false [.mp 30 0 0]), (11, iv m_11_l8)] [(30, some ⟨0, 0, false, true, false, true, [⟨.imm, 0, 0, .row 1 (List.map eI x42.2.wears)⟩, ⟨.imm, 0, 0, .sc (.int .i64 x42.2.life)⟩, ⟨.imm, 0, 0, .sc (.int .i64 x42.2.most)⟩, ⟨.sh, 0, 0, .row 1 (List.map eI x42.2.blades)⟩, ⟨.sh, 0, 0, .row 1 (List.map eI x42.2.left)⟩, ⟨.imm, 0, 0, .sc (.int .i64 x42.2.nodes)⟩, ⟨.imm, 0, 0, .sc (.int .i64 x42.2.budget)⟩, ⟨.imm, 0, 0, .sc (.bool x42.2.full)⟩]⟩)]) (by kernel_rfl) (sq z34 (oMv rfl rfl) <| sq z34 (oNl rfl rfl rfl) <| sq z34 (oFA (r' := .mp 30 0 7) rfl fF162_7 rfl rfl) <| sq z34 (oLd (cs := [.im 0 _]) rfl tF4 rfl rfl) <| nl) ?_
              refine Unw.seq ?_
              by_cases hc12 : x42.2.full = true
              · rw [if_pos hc12] at h
                refine Go.condT rfl (Iff.rfl.2 hc12) ?_
                refine Go.exit ?_
                refine Unw.blkn rfl ?_
                refine Unw.seqx ?_
                refine Unw.nil ?_
                cases h
                exact ⟨rfl, (by kernel_rfl)⟩
              · rw [if_neg hc12] at h
                refine Go.condF rfl (byF Iff.rfl hc12) ?_
                refine Go.skip ?_
                refine Unw.blk ?_
                refine Unw.seq ?_
                refine Go.r0 c34 rfl rfl (sq z34 (oMv rfl rfl) <| sq z34 (oBi rfl rfl rfl rfl) <| sq z34 (oAsI rfl rfl) <| nl) ?_
                refine Unw.nil ?_
                cases h
                exact ⟨rfl, (by kernel_rfl)⟩
          · rw [if_neg hc10] at h
            refine Go.condF rfl (byF iDec hc10) ?_
            refine Go.exit ?_
            refine Unw.seqx ?_
            refine Unw.nil ?_
            cases h
            exact ⟨rfl, (by kernel_rfl)⟩
        · rintro ⟨e, st⟩ hp
          rcases o with u | r2
          · dsimp only at h
            obtain ⟨he, hst⟩ := hp
            obtain rfl : e = .exit 0 := he
            refine Unw.blkx ?_
            refine Unw.seq ?_
            refine Go.seq ?_
            refine Go.r1 c34 rfl rfl hst (sq z34 (oAsN rfl rfl eF27) <| sq z34 (oAsI rfl rfl) <| sq z34 (oAsI rfl rfl) <| nl) ?_
            refine Unw.seq ?_
            refine Go.ret (Unw.ret ?_)
            cases h
            exact Fin_ret (fin_of rfl rF34 rfl (by kernel_rfl))
          · dsimp only at h
            obtain ⟨he, hfin⟩ := hp
            obtain rfl : e = .ret := he
            cases h
            exact Unw.ret (Fin_ret hfin)
    · intro K13
      by_cases hc14 : t_20_m2 = true
      · rw [if_pos hc14] at h
        refine Go.condT rfl (Iff.rfl.2 hc14) ?_
        refine Go.r0 c34 rfl rfl (sq z34 (oAsI rfl rfl) <| nl) ?_
        exact K13 _ ⟨2, h, (by kernel_rfl)⟩
      · rw [if_neg hc14] at h
        refine Go.condF rfl (byF Iff.rfl hc14) ?_
        refine Go.skip ?_
        exact K13 _ ⟨x13, h, (by kernel_rfl)⟩
theorem L_impl_IsName {s_0 : ByteArray} {r : Bool} (h : impl_IsName s_0 = some r) : FL Try.prog cfg 250 [.im 2 false [.sc (.string s_0)]] = some ([(false, [.im 0 (.sc (.bool r))])], []) := by
  unfold impl_IsName at h
  refine FL_goS (A := [(0, .v false [.im 2 (.sc (.string s_0))])]) (B := [(0, none)]) (nt := 50) rfl rfl Try.func250 rfl rfl rfl rfl ?_
  refine Go.seq ?_
  refine Go.r0 c250 rfl rfl (sq z250 (oAsI rfl rfl) <| nl) ?_
  refine Unw.seq ?_
  refine Go.seq ?_
  refine Go.seq ?_
  obtain ⟨t_21_m1, hm26, h⟩ := bs h
  refine Go.rX c250 rfl rfl rfl (mk [(0, sv s_0), (21, bv t_21_m1)] []) ?_ ?_
  · by_cases hc1 : (s_0.size : Int) < 1
    · rw [if_pos hc1] at hm26
      cases hm26
      exact ⟨_, sq z250 (oMv rfl rfl) <| sq z250 (oLnS rfl rfl uF9 rfl) <| sq z250 (oBi rfl rfl rfl rfl) <| sq z250 (oMv rfl rfl) <| sgF rfl rfl (iDec.2 hc1) rfl <| sgF rfl rfl (iDec.2 hc1) rfl <| sgF rfl rfl (iDec.2 hc1) rfl <| sq z250 (oPkT rfl rfl (iDec.2 hc1) rfl) <| sq z250 (oMv rfl rfl) <| sgF rfl rfl rfl rfl <| sgF rfl rfl rfl rfl <| sgF rfl rfl rfl rfl <| sq z250 (oPkT rfl rfl rfl rfl) <| sq z250 (oMv rfl rfl) <| sgF rfl rfl rfl rfl <| sgF rfl rfl rfl rfl <| sgF rfl rfl rfl rfl <| sq z250 (oPkT rfl rfl rfl rfl) <| nl, (by kernel_rfl)⟩
    · rw [if_neg hc1] at hm26
      by_cases hc2 : (s_0.size : Int) > 10
      · rw [if_pos hc2] at hm26
        cases hm26
        exact ⟨_, sq z250 (oMv rfl rfl) <| sq z250 (oLnS rfl rfl uF9 rfl) <| sq z250 (oBi rfl rfl rfl rfl) <| sq z250 (oMv rfl rfl) <| sgT z250 rfl rfl (byF iDec hc1) (oMv rfl rfl) <| sgT z250 rfl rfl (byF iDec hc1) (oLnS rfl rfl uF9 rfl) <| sgT z250 rfl rfl (byF iDec hc1) (oBi rfl rfl rfl rfl) <| sq z250 (oPkF rfl rfl (byF iDec hc1) rfl) <| sq z250 (oMv rfl rfl) <| sgF rfl rfl (iDec.2 hc2) rfl <| sgF rfl rfl (iDec.2 hc2) rfl <| sgF rfl rfl (iDec.2 hc2) rfl <| sq z250 (oPkT rfl rfl (iDec.2 hc2) rfl) <| sq z250 (oMv rfl rfl) <| sgF rfl rfl rfl rfl <| sgF rfl rfl rfl rfl <| sgF rfl rfl rfl rfl <| sq z250 (oPkT rfl rfl rfl rfl) <| nl, (by kernel_rfl)⟩
      · rw [if_neg hc2] at hm26
        obtain ⟨x14, hx14, hm26⟩ := bs hm26
        by_cases hc3 : x14 < 97
        · rw [if_pos hc3] at hm26
          cases hm26
          exact ⟨_, sq z250 (oMv rfl rfl) <| sq z250 (oLnS rfl rfl uF9 rfl) <| sq z250 (oBi rfl rfl rfl rfl) <| sq z250 (oMv rfl rfl) <| sgT z250 rfl rfl (byF iDec hc1) (oMv rfl rfl) <| sgT z250 rfl rfl (byF iDec hc1) (oLnS rfl rfl uF9 rfl) <| sgT z250 rfl rfl (byF iDec hc1) (oBi rfl rfl rfl rfl) <| sq z250 (oPkF rfl rfl (byF iDec hc1) rfl) <| sq z250 (oMv rfl rfl) <| sgT z250 rfl rfl (byF iDec hc2) (oMv rfl rfl) <| sgT z250 rfl rfl (byF iDec hc2) (oIx rfl hx14 uF9 rfl rfl) <| sgT z250 rfl rfl (byF iDec hc2) (oBi rfl rfl rfl rfl) <| sq z250 (oPkF rfl rfl (byF iDec hc2) rfl) <| sq z250 (oMv rfl rfl) <| sgF rfl rfl (iDec.2 hc3) rfl <| sgF rfl rfl (iDec.2 hc3) rfl <| sgF rfl rfl (iDec.2 hc3) rfl <| sq z250 (oPkT rfl rfl (iDec.2 hc3) rfl) <| nl, (by kernel_rfl)⟩
        · rw [if_neg hc3] at hm26
          obtain ⟨x19, hx19, hm26⟩ := bs hm26
          cases hm26
          exact ⟨_, sq z250 (oMv rfl rfl) <| sq z250 (oLnS rfl rfl uF9 rfl) <| sq z250 (oBi rfl rfl rfl rfl) <| sq z250 (oMv rfl rfl) <| sgT z250 rfl rfl (byF iDec hc1) (oMv rfl rfl) <| sgT z250 rfl rfl (byF iDec hc1) (oLnS rfl rfl uF9 rfl) <| sgT z250 rfl rfl (byF iDec hc1) (oBi rfl rfl rfl rfl) <| sq z250 (oPkF rfl rfl (byF iDec hc1) rfl) <| sq z250 (oMv rfl rfl) <| sgT z250 rfl rfl (byF iDec hc2) (oMv rfl rfl) <| sgT z250 rfl rfl (byF iDec hc2) (oIx rfl hx14 uF9 rfl rfl) <| sgT z250 rfl rfl (byF iDec hc2) (oBi rfl rfl rfl rfl) <| sq z250 (oPkF rfl rfl (byF iDec hc2) rfl) <| sq z250 (oMv rfl rfl) <| sgT z250 rfl rfl (byF iDec hc3) (oMv rfl rfl) <| sgT z250 rfl rfl (byF iDec hc3) (oIx rfl hx19 uF9 rfl rfl) <| sgT z250 rfl rfl (byF iDec hc3) (oBi rfl rfl rfl rfl) <| sq z250 (oPkF rfl rfl (byF iDec hc3) rfl) <| nl, (by kernel_rfl)⟩
  · refine Unw.seq ?_
    by_cases hc4 : t_21_m1 = true
    · rw [if_pos hc4] at h
      refine Go.condT rfl (Iff.rfl.2 hc4) ?_
      refine Go.seq ?_
      refine Go.r0 c250 rfl rfl (sq z250 (oAsI rfl rfl) <| nl) ?_
      refine Unw.seq ?_
      refine Go.ret (Unw.ret ?_)
      cases h
      exact Fin_ret (fin_of rfl rF250 rfl (by kernel_rfl))
    · rw [if_neg hc4] at h
      refine Go.condF rfl (byF Iff.rfl hc4) ?_
      refine Go.skip ?_
      refine Unw.seq ?_
      refine Go.seq ?_
      refine Go.seq ?_
      refine Go.r0 c250 rfl rfl (sq z250 (oAsI rfl rfl) <| nl) ?_
      refine Unw.seq ?_
      refine Go.block ?_
      obtain ⟨o, hl, h⟩ := bs h
      refine Go.lp c250 rfl _ (fun (i_3_l4 : Int) => mk [(0, sv s_0), (3, iv i_3_l4)] []) (fun (o : (Unit ⊕ Bool)) (p : Ex × St) => match o with | (.inl _) => p.1 = .exit 0 ∧ p.2.norm ([], []) = mk [] [] | (.inr r2) => p.1 = .ret ∧ fin Try.prog cfg 250 Try.f250 [.im 2 false [.sc (.string s_0)]] p.2 = some ([(false, [.im 0 (.sc (.bool r2))])], [])) hl (by kernel_rfl) ?_ ?_ ?_
      · intro o p hp e
        rcases o with u | r2 <;> exact nomatch (hp.1.symm.trans e)
      · rintro i_3_l4 o h
        unfold impl_IsName_l4 at h
        refine Go.seq ?_
        refine Go.seq ?_
        refine Go.r0 c250 rfl rfl (sq z250 (oMv rfl rfl) <| sq z250 (oMv rfl rfl) <| sq z250 (oLnS rfl rfl uF9 rfl) <| sq z250 (oBi rfl rfl rfl rfl) <| nl) ?_
        refine Unw.seq ?_
        by_cases hc19 : i_3_l4 < (s_0.size : Int)
        · rw [if_pos hc19] at h
          refine Go.condT rfl (iDec.2 hc19) ?_
          refine Go.skip ?_
          refine Unw.seq ?_
          refine Go.seq ?_
          refine Go.block ?_
          refine Go.seq ?_
          obtain ⟨x30, hx30, h⟩ := bs h
          obtain ⟨t_49_m6, hm25, h⟩ := bs h
          refine Go.rX c250 rfl rfl rfl (mk [(0, sv s_0), (3, iv i_3_l4), (49, bv t_49_m6)] []) ?_ ?_
          · by_cases hc20 : x30 < 97
            · rw [if_pos hc20] at hm25
              obtain ⟨x41, hx41, hm25⟩ := bs hm25
              by_cases hc21 : x41 < 48
              · rw [if_pos hc21] at hm25
                cases hm25
                exact ⟨_, sq z250 (oMv rfl rfl) <| sq z250 (oMv rfl rfl) <| sq z250 (oIx rfl hx30 uF9 rfl rfl) <| sq z250 (oBi rfl rfl rfl rfl) <| sq z250 (oMv rfl rfl) <| sgF rfl rfl (iDec.2 hc20) rfl <| sgF rfl rfl (iDec.2 hc20) rfl <| sgF rfl rfl (iDec.2 hc20) rfl <| sgF rfl rfl (iDec.2 hc20) rfl <| sq z250 (oPkT rfl rfl (iDec.2 hc20) rfl) <| sq z250 (oMv rfl rfl) <| sgT z250 rfl rfl rfl (oMv rfl rfl) <| sgT z250 rfl rfl rfl (oMv rfl rfl) <| sgT z250 rfl rfl rfl (oIx rfl hx41 uF9 rfl rfl) <| sgT z250 rfl rfl rfl (oBi rfl rfl rfl rfl) <| sgT z250 rfl rfl rfl (oMv rfl rfl) <| sgF rfl rfl (iDec.2 hc21) rfl <| sgF rfl rfl (iDec.2 hc21) rfl <| sgF rfl rfl (iDec.2 hc21) rfl <| sgF rfl rfl (iDec.2 hc21) rfl <| sgT z250 rfl rfl rfl (oPkT rfl rfl (iDec.2 hc21) rfl) <| sq z250 (oPkT rfl rfl rfl rfl) <| nl, (by kernel_rfl)⟩
              · rw [if_neg hc21] at hm25
                obtain ⟨x46, hx46, hm25⟩ := bs hm25
                cases hm25
                exact ⟨_, sq z250 (oMv rfl rfl) <| sq z250 (oMv rfl rfl) <| sq z250 (oIx rfl hx30 uF9 rfl rfl) <| sq z250 (oBi rfl rfl rfl rfl) <| sq z250 (oMv rfl rfl) <| sgF rfl rfl (iDec.2 hc20) rfl <| sgF rfl rfl (iDec.2 hc20) rfl <| sgF rfl rfl (iDec.2 hc20) rfl <| sgF rfl rfl (iDec.2 hc20) rfl <| sq z250 (oPkT rfl rfl (iDec.2 hc20) rfl) <| sq z250 (oMv rfl rfl) <| sgT z250 rfl rfl rfl (oMv rfl rfl) <| sgT z250 rfl rfl rfl (oMv rfl rfl) <| sgT z250 rfl rfl rfl (oIx rfl hx41 uF9 rfl rfl) <| sgT z250 rfl rfl rfl (oBi rfl rfl rfl rfl) <| sgT z250 rfl rfl rfl (oMv rfl rfl) <| sgT z250 rfl rfl (byF iDec hc21) (oMv rfl rfl) <| sgT z250 rfl rfl (byF iDec hc21) (oMv rfl rfl) <| sgT z250 rfl rfl (byF iDec hc21) (oIx rfl hx46 uF9 rfl rfl) <| sgT z250 rfl rfl (byF iDec hc21) (oBi rfl rfl rfl rfl) <| sgT z250 rfl rfl rfl (oPkF rfl rfl (byF iDec hc21) rfl) <| sq z250 (oPkT rfl rfl rfl rfl) <| nl, (by kernel_rfl)⟩
            · rw [if_neg hc20] at hm25
              obtain ⟨x35, hx35, hm25⟩ := bs hm25
              by_cases hc22 : x35 > 122
              · rw [if_pos hc22] at hm25
                obtain ⟨x41, hx41, hm25⟩ := bs hm25
                by_cases hc23 : x41 < 48
                · rw [if_pos hc23] at hm25
                  cases hm25
                  exact ⟨_, sq z250 (oMv rfl rfl) <| sq z250 (oMv rfl rfl) <| sq z250 (oIx rfl hx30 uF9 rfl rfl) <| sq z250 (oBi rfl rfl rfl rfl) <| sq z250 (oMv rfl rfl) <| sgT z250 rfl rfl (byF iDec hc20) (oMv rfl rfl) <| sgT z250 rfl rfl (byF iDec hc20) (oMv rfl rfl) <| sgT z250 rfl rfl (byF iDec hc20) (oIx rfl hx35 uF9 rfl rfl) <| sgT z250 rfl rfl (byF iDec hc20) (oBi rfl rfl rfl rfl) <| sq z250 (oPkF rfl rfl (byF iDec hc20) rfl) <| sq z250 (oMv rfl rfl) <| sgT z250 rfl rfl (iDec.2 hc22) (oMv rfl rfl) <| sgT z250 rfl rfl (iDec.2 hc22) (oMv rfl rfl) <| sgT z250 rfl rfl (iDec.2 hc22) (oIx rfl hx41 uF9 rfl rfl) <| sgT z250 rfl rfl (iDec.2 hc22) (oBi rfl rfl rfl rfl) <| sgT z250 rfl rfl (iDec.2 hc22) (oMv rfl rfl) <| sgF rfl rfl (iDec.2 hc23) rfl <| sgF rfl rfl (iDec.2 hc23) rfl <| sgF rfl rfl (iDec.2 hc23) rfl <| sgF rfl rfl (iDec.2 hc23) rfl <| sgT z250 rfl rfl (iDec.2 hc22) (oPkT rfl rfl (iDec.2 hc23) rfl) <| sq z250 (oPkT rfl rfl (iDec.2 hc22) rfl) <| nl, (by kernel_rfl)⟩
                · rw [if_neg hc23] at hm25
                  obtain ⟨x46, hx46, hm25⟩ := bs hm25
                  cases hm25
                  exact ⟨_, sq z250 (oMv rfl rfl) <| sq z250 (oMv rfl rfl) <| sq z250 (oIx rfl hx30 uF9 rfl rfl) <| sq z250 (oBi rfl rfl rfl rfl) <| sq z250 (oMv rfl rfl) <| sgT z250 rfl rfl (byF iDec hc20) (oMv rfl rfl) <| sgT z250 rfl rfl (byF iDec hc20) (oMv rfl rfl) <| sgT z250 rfl rfl (byF iDec hc20) (oIx rfl hx35 uF9 rfl rfl) <| sgT z250 rfl rfl (byF iDec hc20) (oBi rfl rfl rfl rfl) <| sq z250 (oPkF rfl rfl (byF iDec hc20) rfl) <| sq z250 (oMv rfl rfl) <| sgT z250 rfl rfl (iDec.2 hc22) (oMv rfl rfl) <| sgT z250 rfl rfl (iDec.2 hc22) (oMv rfl rfl) <| sgT z250 rfl rfl (iDec.2 hc22) (oIx rfl hx41 uF9 rfl rfl) <| sgT z250 rfl rfl (iDec.2 hc22) (oBi rfl rfl rfl rfl) <| sgT z250 rfl rfl (iDec.2 hc22) (oMv rfl rfl) <| sgT z250 rfl rfl (byF iDec hc23) (oMv rfl rfl) <| sgT z250 rfl rfl (byF iDec hc23) (oMv rfl rfl) <| sgT z250 rfl rfl (byF iDec hc23) (oIx rfl hx46 uF9 rfl rfl) <| sgT z250 rfl rfl (byF iDec hc23) (oBi rfl rfl rfl rfl) <| sgT z250 rfl rfl (iDec.2 hc22) (oPkF rfl rfl (byF iDec hc23) rfl) <| sq z250 (oPkT rfl rfl (iDec.2 hc22) rfl) <| nl, (by kernel_rfl)⟩
              · rw [if_neg hc22] at hm25
                cases hm25
                exact ⟨_, sq z250 (oMv rfl rfl) <| sq z250 (oMv rfl rfl) <| sq z250 (oIx rfl hx30 uF9 rfl rfl) <| sq z250 (oBi rfl rfl rfl rfl) <| sq z250 (oMv rfl rfl) <| sgT z250 rfl rfl (byF iDec hc20) (oMv rfl rfl) <| sgT z250 rfl rfl (byF iDec hc20) (oMv rfl rfl) <| sgT z250 rfl rfl (byF iDec hc20) (oIx rfl hx35 uF9 rfl rfl) <| sgT z250 rfl rfl (byF iDec hc20) (oBi rfl rfl rfl rfl) <| sq z250 (oPkF rfl rfl (byF iDec hc20) rfl) <| sq z250 (oMv rfl rfl) <| sgF rfl rfl (byF iDec hc22) rfl <| sgF rfl rfl (byF iDec hc22) rfl <| sgF rfl rfl (byF iDec hc22) rfl <| sgF rfl rfl (byF iDec hc22) rfl <| sgF rfl rfl (byF iDec hc22) rfl <| sgU rfl rfl rfl <| sgU rfl rfl rfl <| sgU rfl rfl rfl <| sgU rfl rfl rfl <| sgF rfl rfl (byF iDec hc22) rfl <| sq z250 (oPkF rfl rfl (byF iDec hc22) rfl) <| nl, (by kernel_rfl)⟩
          · refine Unw.seq ?_
            by_cases hc24 : t_49_m6 = true
            · rw [if_pos hc24] at h
              refine Go.condT rfl (Iff.rfl.2 hc24) ?_
              refine Go.seq ?_
              refine Go.r0 c250 rfl rfl (sq z250 (oAsI rfl rfl) <| nl) ?_
              refine Unw.seq ?_
              refine Go.ret (Unw.ret ?_)
              cases h
              exact ⟨rfl, (fin_of rfl rF250 rfl (by kernel_rfl))⟩
            · rw [if_neg hc24] at h
              refine Go.condF rfl (byF Iff.rfl hc24) ?_
              refine Go.skip ?_
              refine Unw.blk ?_
              refine Unw.seq ?_
              refine Go.r0 c250 rfl rfl (sq z250 (oMv rfl rfl) <| sq z250 (oBi rfl rfl rfl rfl) <| sq z250 (oAsI rfl rfl) <| nl) ?_
              refine Unw.nil ?_
              cases h
              exact ⟨rfl, (by kernel_rfl)⟩
        · rw [if_neg hc19] at h
          refine Go.condF rfl (byF iDec hc19) ?_
          refine Go.exit ?_
          refine Unw.seqx ?_
          refine Unw.nil ?_
          cases h
          exact ⟨rfl, (by kernel_rfl)⟩
      · rintro ⟨e, st⟩ hp
        rcases o with u | r2
        · dsimp only at h
          obtain ⟨he, hst⟩ := hp
          obtain rfl : e = .exit 0 := he
          refine Unw.blkx ?_
          refine Unw.seq ?_
          refine Go.seq ?_
          refine Go.r1 c250 rfl rfl hst (sq z250 (oAsI rfl rfl) <| nl) ?_
          refine Unw.seq ?_
          refine Go.ret (Unw.ret ?_)
          cases h
          exact Fin_ret (fin_of rfl rF250 rfl (by kernel_rfl))
        · dsimp only at h
          obtain ⟨he, hfin⟩ := hp
          obtain rfl : e = .ret := he
          cases h
          exact Unw.ret (Fin_ret hfin)
theorem L_impl_within {n_0 : Int} {low_1 : Int} {high_2 : Int} {r : Bool} (h : impl_within n_0 low_1 high_2 = some r) : FL Try.prog cfg 92 [.im 2 false [.sc (.int .i64 n_0)], .im 2 false [.sc (.int .i64 low_1)], .im 2 false [.sc (.int .i64 high_2)]] = some ([(false, [.im 0 (.sc (.bool r))])], []) := by
  unfold impl_within at h
  refine FL_goS (A := [(0, .v false [.im 2 (.sc (.int .i64 n_0))]), (1, .v false [.im 2 (.sc (.int .i64 low_1))]), (2, .v false [.im 2 (.sc (.int .i64 high_2))])]) (B := [(0, none), (1, none), (2, none)]) (nt := 15) rfl rfl Try.func92 rfl rfl rfl rfl ?_
  refine Go.seq ?_
  refine Go.r0 c92 rfl rfl (sq z92 (oAsI rfl rfl) <| nl) ?_
  refine Unw.seq ?_
  refine Go.seq ?_
  refine Go.rX c92 rfl rfl rfl (mk [(6, bv ((decide (n_0 ≥ low_1)) && (decide (n_0 ≤ high_2))))] []) ?_ ?_
  · by_cases hc1 : n_0 ≥ low_1
    · exact ⟨_, sq z92 (oMv rfl rfl) <| sq z92 (oMv rfl rfl) <| sq z92 (oBi rfl rfl rfl rfl) <| sq z92 (oMv rfl rfl) <| sgT z92 rfl rfl (iDec.2 hc1) (oMv rfl rfl) <| sgT z92 rfl rfl (iDec.2 hc1) (oMv rfl rfl) <| sgT z92 rfl rfl (iDec.2 hc1) (oBi rfl rfl rfl rfl) <| sq z92 (oPkT rfl rfl (iDec.2 hc1) rfl) <| sq z92 (oAsI rfl rfl) <| nl, (Eq.trans (b := (fun t_6_m1 : Bool => mk [(6, bv t_6_m1)] []) (decide (n_0 ≤ high_2))) (by kernel_rfl) (congrArg (fun t_6_m1 : Bool => mk [(6, bv t_6_m1)] []) (by first | rfl | simp [(iDec.2 hc1)])))⟩
    · exact ⟨_, sq z92 (oMv rfl rfl) <| sq z92 (oMv rfl rfl) <| sq z92 (oBi rfl rfl rfl rfl) <| sq z92 (oMv rfl rfl) <| sgF rfl rfl (byF iDec hc1) rfl <| sgF rfl rfl (byF iDec hc1) rfl <| sgF rfl rfl (byF iDec hc1) rfl <| sq z92 (oPkF rfl rfl (byF iDec hc1) rfl) <| sq z92 (oAsI rfl rfl) <| nl, (Eq.trans (b := (fun t_6_m1 : Bool => mk [(6, bv t_6_m1)] []) false) (by kernel_rfl) (congrArg (fun t_6_m1 : Bool => mk [(6, bv t_6_m1)] []) (by first | rfl | simp [(byF iDec hc1)])))⟩
  · refine Unw.seq ?_
    refine Go.ret (Unw.ret ?_)
    cases h
    exact Fin_ret (fin_of rfl rF92 rfl (by kernel_rfl))
theorem L_impl_ValidBlade {b_0 : S_Blade} {r : Bool} (h : impl_ValidBlade b_0 = some r) : FL Try.prog cfg 197 [.im 2 true [.sc (.string b_0.Name), .sc (.int .i64 b_0.Life), .sc (.int .i64 b_0.Price), .sc (.int .i64 b_0.Speed)]] = some ([(false, [.im 0 (.sc (.bool r))])], []) := by
  unfold impl_ValidBlade at h
  refine FL_goS (A := [(0, .v true [.im 2 (.sc (.string b_0.Name)), .im 2 (.sc (.int .i64 b_0.Life)), .im 2 (.sc (.int .i64 b_0.Price)), .im 2 (.sc (.int .i64 b_0.Speed))])]) (B := [(0, none)]) (nt := 21) rfl rfl Try.func197 rfl rfl rfl rfl ?_
  refine Go.seq ?_
  refine Go.r0 c197 rfl rfl (sq z197 (oBx rfl tF54 rfl (tkI (tkI (tkI (tkI tk0))))) <| sq z197 (oAsI rfl rfl) <| nl) ?_
  refine Unw.seq ?_
  refine Go.seq ?_
  obtain ⟨x5, hx5, h⟩ := bs h
  obtain ⟨t_2_m1, hm4, h⟩ := bs h
  refine Go.rX c197 rfl rfl rfl (mk [(2, bv t_2_m1)] []) ?_ ?_
  · by_cases hc1 : x5 = true
    · rw [if_pos hc1] at hm4
      obtain ⟨x9, hx9, hm4⟩ := bs hm4
      by_cases hc2 : x9 = true
      · rw [if_pos hc2] at hm4
        obtain ⟨x14, hx14, hm4⟩ := bs hm4
        by_cases hc3 : x14 = true
        · rw [if_pos hc3] at hm4
          obtain ⟨x19, hx19, hm4⟩ := bs hm4
          cases hm4
          exact ⟨_, sq z197 (oFA (r' := .mp 1 0 0) rfl fF54_0 rfl rfl) <| sq z197 (oLd (cs := [.im 0 _]) rfl tF9 rfl rfl) <| sq z197 (oCa (xs := [.v false [.im 0 _]]) (vs := [(false, [.im 0 _])]) (v := .v false [.im 0 _]) (L_impl_IsName hx5) (.inl rfl) rfl kF250_9 rfl (ppC rfl pp0) rfl rfl pb0 rfl rfl rfl) <| sq z197 (oMv rfl rfl) <| sgT z197 rfl rfl (Iff.rfl.2 hc1) (oFA (r' := .mp 1 0 1) rfl fF54_1 rfl rfl) <| sgT z197 rfl rfl (Iff.rfl.2 hc1) (oLd (cs := [.im 0 _]) rfl tF2 rfl rfl) <| sgT z197 rfl rfl (Iff.rfl.2 hc1) (oCa (xs := [.v false [.im 0 _], .v false [.im 0 _], .v false [.im 0 _]]) (vs := [(false, [.im 0 _])]) (v := .v false [.im 0 _]) (L_impl_within hx9) (.inl rfl) rfl kF92_2_2_2 rfl (ppC rfl (ppC rfl (ppC rfl pp0))) rfl rfl pb0 rfl rfl rfl) <| sq z197 (oPkT rfl rfl (Iff.rfl.2 hc1) rfl) <| sq z197 (oMv rfl rfl) <| sgT z197 rfl rfl (Iff.rfl.2 hc2) (oFA (r' := .mp 1 0 2) rfl fF54_2 rfl rfl) <| sgT z197 rfl rfl (Iff.rfl.2 hc2) (oLd (cs := [.im 0 _]) rfl tF2 rfl rfl) <| sgT z197 rfl rfl (Iff.rfl.2 hc2) (oCa (xs := [.v false [.im 0 _], .v false [.im 0 _], .v false [.im 0 _]]) (vs := [(false, [.im 0 _])]) (v := .v false [.im 0 _]) (L_impl_within hx14) (.inl rfl) rfl kF92_2_2_2 rfl (ppC rfl (ppC rfl (ppC rfl pp0))) rfl rfl pb0 rfl rfl rfl) <| sq z197 (oPkT rfl rfl (Iff.rfl.2 hc2) rfl) <| sq z197 (oMv rfl rfl) <| sgT z197 rfl rfl (Iff.rfl.2 hc3) (oFA (r' := .mp 1 0 3) rfl fF54_3 rfl rfl) <| sgT z197 rfl rfl (Iff.rfl.2 hc3) (oLd (cs := [.im 0 _]) rfl tF2 rfl rfl) <| sgT z197 rfl rfl (Iff.rfl.2 hc3) (oCa (xs := [.v false [.im 0 _], .v false [.im 0 _], .v false [.im 0 _]]) (vs := [(false, [.im 0 _])]) (v := .v false [.im 0 _]) (L_impl_within hx19) (.inl rfl) rfl kF92_2_2_2 rfl (ppC rfl (ppC rfl (ppC rfl pp0))) rfl rfl pb0 rfl rfl rfl) <| sq z197 (oPkT rfl rfl (Iff.rfl.2 hc3) rfl) <| sq z197 (oAsI rfl rfl) <| nl, (by kernel_rfl)⟩
        · rw [if_neg hc3] at hm4
          cases hm4
          exact ⟨_, sq z197 (oFA (r' := .mp 1 0 0) rfl fF54_0 rfl rfl) <| sq z197 (oLd (cs := [.im 0 _]) rfl tF9 rfl rfl) <| sq z197 (oCa (xs := [.v false [.im 0 _]]) (vs := [(false, [.im 0 _])]) (v := .v false [.im 0 _]) (L_impl_IsName hx5) (.inl rfl) rfl kF250_9 rfl (ppC rfl pp0) rfl rfl pb0 rfl rfl rfl) <| sq z197 (oMv rfl rfl) <| sgT z197 rfl rfl (Iff.rfl.2 hc1) (oFA (r' := .mp 1 0 1) rfl fF54_1 rfl rfl) <| sgT z197 rfl rfl (Iff.rfl.2 hc1) (oLd (cs := [.im 0 _]) rfl tF2 rfl rfl) <| sgT z197 rfl rfl (Iff.rfl.2 hc1) (oCa (xs := [.v false [.im 0 _], .v false [.im 0 _], .v false [.im 0 _]]) (vs := [(false, [.im 0 _])]) (v := .v false [.im 0 _]) (L_impl_within hx9) (.inl rfl) rfl kF92_2_2_2 rfl (ppC rfl (ppC rfl (ppC rfl pp0))) rfl rfl pb0 rfl rfl rfl) <| sq z197 (oPkT rfl rfl (Iff.rfl.2 hc1) rfl) <| sq z197 (oMv rfl rfl) <| sgT z197 rfl rfl (Iff.rfl.2 hc2) (oFA (r' := .mp 1 0 2) rfl fF54_2 rfl rfl) <| sgT z197 rfl rfl (Iff.rfl.2 hc2) (oLd (cs := [.im 0 _]) rfl tF2 rfl rfl) <| sgT z197 rfl rfl (Iff.rfl.2 hc2) (oCa (xs := [.v false [.im 0 _], .v false [.im 0 _], .v false [.im 0 _]]) (vs := [(false, [.im 0 _])]) (v := .v false [.im 0 _]) (L_impl_within hx14) (.inl rfl) rfl kF92_2_2_2 rfl (ppC rfl (ppC rfl (ppC rfl pp0))) rfl rfl pb0 rfl rfl rfl) <| sq z197 (oPkT rfl rfl (Iff.rfl.2 hc2) rfl) <| sq z197 (oMv rfl rfl) <| sgF rfl rfl (byF Iff.rfl hc3) rfl <| sgF rfl rfl (byF Iff.rfl hc3) rfl <| sgF rfl rfl (byF Iff.rfl hc3) rfl <| sq z197 (oPkF rfl rfl (byF Iff.rfl hc3) rfl) <| sq z197 (oAsI rfl rfl) <| nl, (by kernel_rfl)⟩
      · rw [if_neg hc2] at hm4
        cases hm4
        exact ⟨_, sq z197 (oFA (r' := .mp 1 0 0) rfl fF54_0 rfl rfl) <| sq z197 (oLd (cs := [.im 0 _]) rfl tF9 rfl rfl) <| sq z197 (oCa (xs := [.v false [.im 0 _]]) (vs := [(false, [.im 0 _])]) (v := .v false [.im 0 _]) (L_impl_IsName hx5) (.inl rfl) rfl kF250_9 rfl (ppC rfl pp0) rfl rfl pb0 rfl rfl rfl) <| sq z197 (oMv rfl rfl) <| sgT z197 rfl rfl (Iff.rfl.2 hc1) (oFA (r' := .mp 1 0 1) rfl fF54_1 rfl rfl) <| sgT z197 rfl rfl (Iff.rfl.2 hc1) (oLd (cs := [.im 0 _]) rfl tF2 rfl rfl) <| sgT z197 rfl rfl (Iff.rfl.2 hc1) (oCa (xs := [.v false [.im 0 _], .v false [.im 0 _], .v false [.im 0 _]]) (vs := [(false, [.im 0 _])]) (v := .v false [.im 0 _]) (L_impl_within hx9) (.inl rfl) rfl kF92_2_2_2 rfl (ppC rfl (ppC rfl (ppC rfl pp0))) rfl rfl pb0 rfl rfl rfl) <| sq z197 (oPkT rfl rfl (Iff.rfl.2 hc1) rfl) <| sq z197 (oMv rfl rfl) <| sgF rfl rfl (byF Iff.rfl hc2) rfl <| sgF rfl rfl (byF Iff.rfl hc2) rfl <| sgF rfl rfl (byF Iff.rfl hc2) rfl <| sq z197 (oPkF rfl rfl (byF Iff.rfl hc2) rfl) <| sq z197 (oMv rfl rfl) <| sgF rfl rfl rfl rfl <| sgF rfl rfl rfl rfl <| sgF rfl rfl rfl rfl <| sq z197 (oPkF rfl rfl rfl rfl) <| sq z197 (oAsI rfl rfl) <| nl, (by kernel_rfl)⟩
    · rw [if_neg hc1] at hm4
      cases hm4
      exact ⟨_, sq z197 (oFA (r' := .mp 1 0 0) rfl fF54_0 rfl rfl) <| sq z197 (oLd (cs := [.im 0 _]) rfl tF9 rfl rfl) <| sq z197 (oCa (xs := [.v false [.im 0 _]]) (vs := [(false, [.im 0 _])]) (v := .v false [.im 0 _]) (L_impl_IsName hx5) (.inl rfl) rfl kF250_9 rfl (ppC rfl pp0) rfl rfl pb0 rfl rfl rfl) <| sq z197 (oMv rfl rfl) <| sgF rfl rfl (byF Iff.rfl hc1) rfl <| sgF rfl rfl (byF Iff.rfl hc1) rfl <| sgF rfl rfl (byF Iff.rfl hc1) rfl <| sq z197 (oPkF rfl rfl (byF Iff.rfl hc1) rfl) <| sq z197 (oMv rfl rfl) <| sgF rfl rfl rfl rfl <| sgF rfl rfl rfl rfl <| sgF rfl rfl rfl rfl <| sq z197 (oPkF rfl rfl rfl rfl) <| sq z197 (oMv rfl rfl) <| sgF rfl rfl rfl rfl <| sgF rfl rfl rfl rfl <| sgF rfl rfl rfl rfl <| sq z197 (oPkF rfl rfl rfl rfl) <| sq z197 (oAsI rfl rfl) <| nl, (by kernel_rfl)⟩
  · refine Unw.seq ?_
    refine Go.ret (Unw.ret ?_)
    cases h
    exact Fin_ret (fin_of rfl rF197 rfl (by kernel_rfl))
theorem L_impl_validCutting {c_0 : S_Cutting} {r : Bool} (h : impl_validCutting c_0 = some r) : FL Try.prog cfg 253 [.im 2 true [.sc (.string c_0.Name), .sc (.int .i64 c_0.Length), .sc (.int .i64 c_0.Hardness)]] = some ([(false, [.im 0 (.sc (.bool r))])], []) := by
  unfold impl_validCutting at h
  refine FL_goS (A := [(0, .v true [.im 2 (.sc (.string c_0.Name)), .im 2 (.sc (.int .i64 c_0.Length)), .im 2 (.sc (.int .i64 c_0.Hardness))])]) (B := [(0, none)]) (nt := 16) rfl rfl Try.func253 rfl rfl rfl rfl ?_
  refine Go.seq ?_
  refine Go.r0 c253 rfl rfl (sq z253 (oBx rfl tF163 rfl (tkI (tkI (tkI tk0)))) <| sq z253 (oAsI rfl rfl) <| nl) ?_
  refine Unw.seq ?_
  refine Go.seq ?_
  obtain ⟨x5, hx5, h⟩ := bs h
  obtain ⟨t_2_m1, hm3, h⟩ := bs h
  refine Go.rX c253 rfl rfl rfl (mk [(2, bv t_2_m1)] []) ?_ ?_
  · by_cases hc1 : x5 = true
    · rw [if_pos hc1] at hm3
      obtain ⟨x9, hx9, hm3⟩ := bs hm3
      by_cases hc2 : x9 = true
      · rw [if_pos hc2] at hm3
        obtain ⟨x14, hx14, hm3⟩ := bs hm3
        cases hm3
        exact ⟨_, sq z253 (oFA (r' := .mp 1 0 0) rfl fF163_0 rfl rfl) <| sq z253 (oLd (cs := [.im 0 _]) rfl tF9 rfl rfl) <| sq z253 (oCa (xs := [.v false [.im 0 _]]) (vs := [(false, [.im 0 _])]) (v := .v false [.im 0 _]) (L_impl_IsName hx5) (.inl rfl) rfl kF250_9 rfl (ppC rfl pp0) rfl rfl pb0 rfl rfl rfl) <| sq z253 (oMv rfl rfl) <| sgT z253 rfl rfl (Iff.rfl.2 hc1) (oFA (r' := .mp 1 0 1) rfl fF163_1 rfl rfl) <| sgT z253 rfl rfl (Iff.rfl.2 hc1) (oLd (cs := [.im 0 _]) rfl tF2 rfl rfl) <| sgT z253 rfl rfl (Iff.rfl.2 hc1) (oCa (xs := [.v false [.im 0 _], .v false [.im 0 _], .v false [.im 0 _]]) (vs := [(false, [.im 0 _])]) (v := .v false [.im 0 _]) (L_impl_within hx9) (.inl rfl) rfl kF92_2_2_2 rfl (ppC rfl (ppC rfl (ppC rfl pp0))) rfl rfl pb0 rfl rfl rfl) <| sq z253 (oPkT rfl rfl (Iff.rfl.2 hc1) rfl) <| sq z253 (oMv rfl rfl) <| sgT z253 rfl rfl (Iff.rfl.2 hc2) (oFA (r' := .mp 1 0 2) rfl fF163_2 rfl rfl) <| sgT z253 rfl rfl (Iff.rfl.2 hc2) (oLd (cs := [.im 0 _]) rfl tF2 rfl rfl) <| sgT z253 rfl rfl (Iff.rfl.2 hc2) (oCa (xs := [.v false [.im 0 _], .v false [.im 0 _], .v false [.im 0 _]]) (vs := [(false, [.im 0 _])]) (v := .v false [.im 0 _]) (L_impl_within hx14) (.inl rfl) rfl kF92_2_2_2 rfl (ppC rfl (ppC rfl (ppC rfl pp0))) rfl rfl pb0 rfl rfl rfl) <| sq z253 (oPkT rfl rfl (Iff.rfl.2 hc2) rfl) <| sq z253 (oAsI rfl rfl) <| nl, (by kernel_rfl)⟩
      · rw [if_neg hc2] at hm3
        cases hm3
        exact ⟨_, sq z253 (oFA (r' := .mp 1 0 0) rfl fF163_0 rfl rfl) <| sq z253 (oLd (cs := [.im 0 _]) rfl tF9 rfl rfl) <| sq z253 (oCa (xs := [.v false [.im 0 _]]) (vs := [(false, [.im 0 _])]) (v := .v false [.im 0 _]) (L_impl_IsName hx5) (.inl rfl) rfl kF250_9 rfl (ppC rfl pp0) rfl rfl pb0 rfl rfl rfl) <| sq z253 (oMv rfl rfl) <| sgT z253 rfl rfl (Iff.rfl.2 hc1) (oFA (r' := .mp 1 0 1) rfl fF163_1 rfl rfl) <| sgT z253 rfl rfl (Iff.rfl.2 hc1) (oLd (cs := [.im 0 _]) rfl tF2 rfl rfl) <| sgT z253 rfl rfl (Iff.rfl.2 hc1) (oCa (xs := [.v false [.im 0 _], .v false [.im 0 _], .v false [.im 0 _]]) (vs := [(false, [.im 0 _])]) (v := .v false [.im 0 _]) (L_impl_within hx9) (.inl rfl) rfl kF92_2_2_2 rfl (ppC rfl (ppC rfl (ppC rfl pp0))) rfl rfl pb0 rfl rfl rfl) <| sq z253 (oPkT rfl rfl (Iff.rfl.2 hc1) rfl) <| sq z253 (oMv rfl rfl) <| sgF rfl rfl (byF Iff.rfl hc2) rfl <| sgF rfl rfl (byF Iff.rfl hc2) rfl <| sgF rfl rfl (byF Iff.rfl hc2) rfl <| sq z253 (oPkF rfl rfl (byF Iff.rfl hc2) rfl) <| sq z253 (oAsI rfl rfl) <| nl, (by kernel_rfl)⟩
    · rw [if_neg hc1] at hm3
      cases hm3
      exact ⟨_, sq z253 (oFA (r' := .mp 1 0 0) rfl fF163_0 rfl rfl) <| sq z253 (oLd (cs := [.im 0 _]) rfl tF9 rfl rfl) <| sq z253 (oCa (xs := [.v false [.im 0 _]]) (vs := [(false, [.im 0 _])]) (v := .v false [.im 0 _]) (L_impl_IsName hx5) (.inl rfl) rfl kF250_9 rfl (ppC rfl pp0) rfl rfl pb0 rfl rfl rfl) <| sq z253 (oMv rfl rfl) <| sgF rfl rfl (byF Iff.rfl hc1) rfl <| sgF rfl rfl (byF Iff.rfl hc1) rfl <| sgF rfl rfl (byF Iff.rfl hc1) rfl <| sq z253 (oPkF rfl rfl (byF Iff.rfl hc1) rfl) <| sq z253 (oMv rfl rfl) <| sgF rfl rfl rfl rfl <| sgF rfl rfl rfl rfl <| sgF rfl rfl rfl rfl <| sq z253 (oPkF rfl rfl rfl rfl) <| sq z253 (oAsI rfl rfl) <| nl, (by kernel_rfl)⟩
  · refine Unw.seq ?_
    refine Go.ret (Unw.ret ?_)
    cases h
    exact Fin_ret (fin_of rfl rF253 rfl (by kernel_rfl))
theorem L_impl_ValidCuttings {list_0 : (List S_Cutting)} {r : Bool} (h : impl_ValidCuttings list_0 = some r) : FL Try.prog cfg 198 [.im 2 false [.row 3 (List.map e_S_Cutting list_0)]] = some ([(false, [.im 0 (.sc (.bool r))])], []) := by
  unfold impl_ValidCuttings at h
  refine FL_goS (A := [(0, .v false [.im 2 (.row 3 (List.map e_S_Cutting list_0))])]) (B := [(0, none)]) (nt := 34) rfl rfl Try.func198 rfl rfl rfl rfl ?_
  refine Go.seq ?_
  refine Go.r0 c198 rfl rfl (sq z198 (oAsI rfl rfl) <| nl) ?_
  refine Unw.seq ?_
  refine Go.seq ?_
  refine Go.seq ?_
  refine Go.r0 c198 rfl rfl (sq z198 (oMv rfl rfl) <| sq z198 (oLnI rfl rfl uF56 rfl) <| sq z198 (oMv rfl rfl) <| nl) ?_
  refine Unw.seq ?_
  refine Go.block ?_
  obtain ⟨o, hl, h⟩ := bs h
  refine Go.lp c198 rfl _ (fun (t_7_l2 : Int) => mk [(0, .v false [.im 2 (.row 3 (List.map e_S_Cutting list_0))]), (5, .v false [.im 2 (.row 3 (List.map e_S_Cutting list_0))]), (6, iv (list_0.length : Int)), (7, iv t_7_l2)] []) (fun (o : (Unit ⊕ Bool)) (p : Ex × St) => match o with | (.inl _) => p.1 = .exit 0 ∧ p.2.norm ([0], []) = mk [(0, .v false [.im 2 (.row 3 (List.map e_S_Cutting list_0))])] [] | (.inr r2) => p.1 = .ret ∧ fin Try.prog cfg 198 Try.f198 [.im 2 false [.row 3 (List.map e_S_Cutting list_0)]] p.2 = some ([(false, [.im 0 (.sc (.bool r2))])], [])) hl (by kernel_rfl) ?_ ?_ ?_
  · intro o p hp e
    rcases o with u | r2 <;> exact nomatch (hp.1.symm.trans e)
  · rintro t_7_l2 o h
    unfold impl_ValidCuttings_l2 at h
    refine Go.seq ?_
    refine Go.r0 c198 rfl rfl (sq z198 (oBi rfl rfl rfl rfl) <| nl) ?_
    refine Unw.seq ?_
    refine Go.seq ?_
    by_cases hc11 : t_7_l2 < (list_0.length : Int)
    · rw [if_pos hc11] at h
      refine Go.condT rfl (iDec.2 hc11) ?_
      refine Go.skip ?_
      refine Unw.seq ?_
      refine Go.seq ?_
      refine Go.block ?_
      refine Go.seq ?_
      obtain ⟨x10, hx10, h⟩ := bs h
      refine Go.r0 c198 rfl rfl (sq z198 (oMv rfl rfl) <| sq z198 (oIAI rfl hx10 sF56 rfl rfl) <| sq z198 (oLd (cs := [.im 2 _, .im 2 _, .im 2 _]) rfl tF163 rfl rfl) <| sq z198 (oAl rfl tF163 (tkI (tkI (tkI tk0)))) <| sq z198 (oAsI rfl rfl) <| sq z198 (oSt tF163 rfl rfl rfl (tkI (tkI (tkI tk0))) rfl rfl rfl) <| nl) ?_
      refine Unw.seq ?_
      refine Go.seq ?_
      obtain ⟨x13, hx13, h⟩ := bs h
      obtain ⟨t_29_m4, hm15, h⟩ := bs h
      refine Go.dr c198 rfl rfl rfl (st1 := mk [(0, .v false [.im 2 (.row 3 (List.map e_S_Cutting list_0))]), (3, iv t_7_l2), (4, .v false [.mp 4 0 0]), (5, .v false [.im 2 (.row 3 (List.map e_S_Cutting list_0))]), (6, iv (list_0.length : Int)), (7, iv t_7_l2)] [(4, some ⟨0, 0, false, true, false, true, [⟨.imm, 0, 0, .sc (.string x10.Name)⟩, ⟨.imm, 0, 0, .sc (.int .i64 x10.Length)⟩, ⟨.imm, 0, 0, .sc (.int .i64 x10.Hardness)⟩]⟩)]) (by kernel_rfl) (mk [(0, .v false [.im 2 (.row 3 (List.map e_S_Cutting list_0))]), (5, .v false [.im 2 (.row 3 (List.map e_S_Cutting list_0))]), (6, iv (list_0.length : Int)), (7, iv t_7_l2), (29, bv t_29_m4)] []) ?_ ?_
      · by_cases hc12 : x13 = true
        · rw [if_pos hc12] at hm15
          by_cases hc13 : t_7_l2 > 0
          · rw [if_pos hc13] at hm15
            obtain ⟨x22, hx22, hm15⟩ := bs hm15
            cases hm15
            exact sT rfl (dN z198 rfl (oLd (cs := [.im 0 _, .im 0 _, .im 0 _]) rfl tF163 rfl rfl)) <| sS (dN z198 rfl (oCa (xs := [.v true [.im 0 _, .im 0 _, .im 0 _]]) (vs := [(false, [.im 0 _])]) (v := .v false [.im 0 _]) (L_impl_validCutting hx13) (.inl rfl) rfl kF253_163 rfl (ppC rfl pp0) rfl rfl pb0 rfl rfl rfl)) trivial (sT rfl (dN z198 rfl (oUn rfl rfl rfl)) <| sT rfl (dN z198 rfl (oMv rfl rfl)) <| sT rfl (dT z198 rfl rfl rfl (nF (Iff.rfl.2 hc12)) (oMv rfl rfl)) <| sT rfl (dT z198 rfl rfl rfl (nF (Iff.rfl.2 hc12)) (oBi rfl rfl rfl rfl)) <| sT rfl (dT z198 rfl rfl rfl (nF (Iff.rfl.2 hc12)) (oMv rfl rfl)) <| sT rfl (dT z198 rfl rfl rfl (iDec.2 hc13) (oMv rfl rfl)) <| sT rfl (dT z198 rfl rfl rfl (iDec.2 hc13) (oMv rfl rfl)) <| sT rfl (dT z198 rfl rfl rfl (iDec.2 hc13) (oBi rfl rfl rfl rfl)) <| sT rfl (dT z198 rfl rfl rfl (iDec.2 hc13) (oIAI rfl hx22 sF56 rfl rfl)) <| sT rfl (dT z198 rfl rfl rfl (iDec.2 hc13) (oFA (r' := .im 2 _) rfl fF163_0 rfl rfl)) <| sT rfl (dT z198 rfl rfl rfl (iDec.2 hc13) (oLd (cs := [.im 2 _]) rfl tF9 rfl rfl)) <| sT rfl (dT z198 rfl rfl rfl (iDec.2 hc13) (oFA (r' := .mp 4 0 0) rfl fF163_0 rfl rfl)) <| sT rfl (dT z198 rfl rfl rfl (iDec.2 hc13) (oLd (cs := [.im 0 _]) rfl tF9 rfl rfl)) <| sT rfl (dT z198 rfl rfl rfl (iDec.2 hc13) (oBi rfl rfl rfl rfl)) <| sT rfl (dT z198 rfl rfl rfl (nF (Iff.rfl.2 hc12)) (oPkT rfl rfl (iDec.2 hc13) rfl)) <| sT rfl (dN z198 rfl (oPkF rfl rfl (nF (Iff.rfl.2 hc12)) rfl)) <| sD (by kernel_rfl))
          · rw [if_neg hc13] at hm15
            cases hm15
            exact sT rfl (dN z198 rfl (oLd (cs := [.im 0 _, .im 0 _, .im 0 _]) rfl tF163 rfl rfl)) <| sS (dN z198 rfl (oCa (xs := [.v true [.im 0 _, .im 0 _, .im 0 _]]) (vs := [(false, [.im 0 _])]) (v := .v false [.im 0 _]) (L_impl_validCutting hx13) (.inl rfl) rfl kF253_163 rfl (ppC rfl pp0) rfl rfl pb0 rfl rfl rfl)) trivial (sT rfl (dN z198 rfl (oUn rfl rfl rfl)) <| sT rfl (dN z198 rfl (oMv rfl rfl)) <| sT rfl (dT z198 rfl rfl rfl (nF (Iff.rfl.2 hc12)) (oMv rfl rfl)) <| sT rfl (dT z198 rfl rfl rfl (nF (Iff.rfl.2 hc12)) (oBi rfl rfl rfl rfl)) <| sT rfl (dT z198 rfl rfl rfl (nF (Iff.rfl.2 hc12)) (oMv rfl rfl)) <| sT rfl (dF rfl rfl rfl (byF iDec hc13) rfl) <| sT rfl (dF rfl rfl rfl (byF iDec hc13) rfl) <| sT rfl (dF rfl rfl rfl (byF iDec hc13) rfl) <| sT rfl (dF rfl rfl rfl (byF iDec hc13) rfl) <| sT rfl (dF rfl rfl rfl (byF iDec hc13) rfl) <| sT rfl (dF rfl rfl rfl (byF iDec hc13) rfl) <| sT rfl (dF rfl rfl rfl (byF iDec hc13) rfl) <| sT rfl (dF rfl rfl rfl (byF iDec hc13) rfl) <| sT rfl (dF rfl rfl rfl (byF iDec hc13) rfl) <| sT rfl (dT z198 rfl rfl rfl (nF (Iff.rfl.2 hc12)) (oPkF rfl rfl (byF iDec hc13) rfl)) <| sT rfl (dN z198 rfl (oPkF rfl rfl (nF (Iff.rfl.2 hc12)) rfl)) <| sD (by kernel_rfl))
        · rw [if_neg hc12] at hm15
          cases hm15
          exact sT rfl (dN z198 rfl (oLd (cs := [.im 0 _, .im 0 _, .im 0 _]) rfl tF163 rfl rfl)) <| sS (dN z198 rfl (oCa (xs := [.v true [.im 0 _, .im 0 _, .im 0 _]]) (vs := [(false, [.im 0 _])]) (v := .v false [.im 0 _]) (L_impl_validCutting hx13) (.inl rfl) rfl kF253_163 rfl (ppC rfl pp0) rfl rfl pb0 rfl rfl rfl)) trivial (sT rfl (dN z198 rfl (oUn rfl rfl rfl)) <| sT rfl (dN z198 rfl (oMv rfl rfl)) <| sT rfl (dF rfl rfl rfl (nT (byF Iff.rfl hc12)) rfl) <| sT rfl (dF rfl rfl rfl (nT (byF Iff.rfl hc12)) rfl) <| sT rfl (dF rfl rfl rfl (nT (byF Iff.rfl hc12)) rfl) <| sT rfl (dU rfl rfl rfl rfl) <| sT rfl (dU rfl rfl rfl rfl) <| sT rfl (dU rfl rfl rfl rfl) <| sT rfl (dU rfl rfl rfl rfl) <| sT rfl (dU rfl rfl rfl rfl) <| sT rfl (dU rfl rfl rfl rfl) <| sT rfl (dU rfl rfl rfl rfl) <| sT rfl (dU rfl rfl rfl rfl) <| sT rfl (dU rfl rfl rfl rfl) <| sT rfl (dF rfl rfl rfl (nT (byF Iff.rfl hc12)) rfl) <| sT rfl (dN z198 rfl (oPkT rfl rfl (nT (byF Iff.rfl hc12)) rfl)) <| sD (by kernel_rfl))
      · refine Unw.seq ?_
        by_cases hc14 : t_29_m4 = true
        · rw [if_pos hc14] at h
          refine Go.condT rfl (Iff.rfl.2 hc14) ?_
          refine Go.seq ?_
          refine Go.r0 c198 rfl rfl (sq z198 (oAsI rfl rfl) <| nl) ?_
          refine Unw.seq ?_
          refine Go.ret (Unw.ret ?_)
          cases h
          exact ⟨rfl, (fin_of rfl rF198 rfl (by kernel_rfl))⟩
        · rw [if_neg hc14] at h
          refine Go.condF rfl (byF Iff.rfl hc14) ?_
          refine Go.skip ?_
          refine Unw.blk ?_
          refine Unw.seq ?_
          refine Go.r0 c198 rfl rfl (sq z198 (oBi rfl rfl rfl rfl) <| sq z198 (oMv rfl rfl) <| nl) ?_
          refine Unw.nil ?_
          cases h
          exact ⟨rfl, (by kernel_rfl)⟩
    · rw [if_neg hc11] at h
      refine Go.condF rfl (byF iDec hc11) ?_
      refine Go.exit ?_
      refine Unw.seqx ?_
      refine Unw.nil ?_
      cases h
      exact ⟨rfl, (by kernel_rfl)⟩
  · rintro ⟨e, st⟩ hp
    rcases o with u | r2
    · dsimp only at h
      obtain ⟨he, hst⟩ := hp
      obtain rfl : e = .exit 0 := he
      refine Unw.blkx ?_
      refine Unw.seq ?_
      refine Go.seq ?_
      refine Go.r1 c198 rfl rfl hst (sq z198 (oMv rfl rfl) <| sq z198 (oLnI rfl rfl uF56 rfl) <| sq z198 (oBi rfl rfl rfl rfl) <| sq z198 (oAsI rfl rfl) <| nl) ?_
      refine Unw.seq ?_
      refine Go.ret (Unw.ret ?_)
      cases h
      exact Fin_ret (fin_of rfl rF198 rfl (by kernel_rfl))
    · dsimp only at h
      obtain ⟨he, hfin⟩ := hp
      obtain rfl : e = .ret := he
      cases h
      exact Unw.ret (Fin_ret hfin)
theorem L_impl_upDiv {a_0 : Int} {b_1 : Int} {r : Int} (h : impl_upDiv a_0 b_1 = some r) : FL Try.prog cfg 172 [.im 2 false [.sc (.int .i64 a_0)], .im 2 false [.sc (.int .i64 b_1)]] = some ([(false, [.im 0 (.sc (.int .i64 r))])], []) := by
  unfold impl_upDiv at h
  refine FL_goS (A := [(0, .v false [.im 2 (.sc (.int .i64 a_0))]), (1, .v false [.im 2 (.sc (.int .i64 b_1))])]) (B := [(0, none), (1, none)]) (nt := 11) rfl rfl Try.func172 rfl rfl rfl rfl ?_
  refine Go.seq ?_
  refine Go.r0 c172 rfl rfl (sq z172 (oAsI rfl rfl) <| nl) ?_
  refine Unw.seq ?_
  refine Go.seq ?_
  obtain ⟨x10, hx10, h⟩ := bs h
  refine Go.r0 c172 rfl rfl (sq z172 (oMv rfl rfl) <| sq z172 (oMv rfl rfl) <| sq z172 (oBi rfl rfl rfl rfl) <| sq z172 (oBi rfl rfl rfl rfl) <| sq z172 (oMv rfl rfl) <| sq z172 (oQuo rfl hx10 rfl rfl) <| sq z172 (oAsI rfl rfl) <| nl) ?_
  refine Unw.seq ?_
  refine Go.ret (Unw.ret ?_)
  cases h
  exact Fin_ret (fin_of rfl rF172 rfl (by kernel_rfl))
theorem L_impl_wear {c_0 : S_Cutting} {r : Int} (h : impl_wear c_0 = some r) : FL Try.prog cfg 199 [.im 2 true [.sc (.string c_0.Name), .sc (.int .i64 c_0.Length), .sc (.int .i64 c_0.Hardness)]] = some ([(false, [.im 0 (.sc (.int .i64 r))])], []) := by
  unfold impl_wear at h
  refine FL_goS (A := [(0, .v true [.im 2 (.sc (.string c_0.Name)), .im 2 (.sc (.int .i64 c_0.Length)), .im 2 (.sc (.int .i64 c_0.Hardness))])]) (B := [(0, none)]) (nt := 9) rfl rfl Try.func199 rfl rfl rfl rfl ?_
  refine Go.seq ?_
  refine Go.r0 c199 rfl rfl (sq z199 (oBx rfl tF163 rfl (tkI (tkI (tkI tk0)))) <| sq z199 (oAsI rfl rfl) <| nl) ?_
  refine Unw.seq ?_
  refine Go.seq ?_
  obtain ⟨x8, hx8, h⟩ := bs h
  refine Go.r0 c199 rfl rfl (sq z199 (oFA (r' := .mp 1 0 1) rfl fF163_1 rfl rfl) <| sq z199 (oLd (cs := [.im 0 _]) rfl tF2 rfl rfl) <| sq z199 (oFA (r' := .mp 1 0 2) rfl fF163_2 rfl rfl) <| sq z199 (oLd (cs := [.im 0 _]) rfl tF2 rfl rfl) <| sq z199 (oBi rfl rfl rfl rfl) <| sq z199 (oCa (xs := [.v false [.im 0 _], .v false [.im 0 _]]) (vs := [(false, [.im 0 _])]) (v := .v false [.im 0 _]) (L_impl_upDiv hx8) (.inl rfl) rfl kF172_2_2 rfl (ppC rfl (ppC rfl pp0)) rfl rfl pb0 rfl rfl rfl) <| sq z199 (oAsI rfl rfl) <| nl) ?_
  refine Unw.seq ?_
  refine Go.ret (Unw.ret ?_)
  cases h
  exact Fin_ret (fin_of rfl rF199 rfl (by kernel_rfl))
theorem L_impl_wears {b_0 : S_Blade} {list_1 : (List S_Cutting)} {r : ((List Int) × Int)} (h : impl_wears b_0 list_1 = some r) : FL Try.prog cfg 114 [.im 2 true [.sc (.string b_0.Name), .sc (.int .i64 b_0.Life), .sc (.int .i64 b_0.Price), .sc (.int .i64 b_0.Speed)], .im 2 false [.row 3 (List.map e_S_Cutting list_1)]] = some ([(false, [.im 0 (.row 1 (List.map eI r.1))]), (false, [.im 0 (.sc (.int .i64 r.2))])], []) := by
  unfold impl_wears at h
  refine FL_goS (A := [(0, .v true [.im 2 (.sc (.string b_0.Name)), .im 2 (.sc (.int .i64 b_0.Life)), .im 2 (.sc (.int .i64 b_0.Price)), .im 2 (.sc (.int .i64 b_0.Speed))]), (1, .v false [.im 2 (.row 3 (List.map e_S_Cutting list_1))])]) (B := [(0, none), (1, none)]) (nt := 36) rfl rfl Try.func114 rfl rfl rfl rfl ?_
  refine Go.seq ?_
  refine Go.r0 c114 rfl rfl (sqn z114 rfl (oBx rfl tF54 rfl (tkI (tkI (tkI (tkI tk0))))) <| sqf z114 rfl (oAsN rfl rfl eF27) (frzO rfl rfl rfl) <| sqn z114 rfl (oAsI rfl rfl) <| nl) ?_
  refine Unw.seq ?_
  refine Go.seq ?_
  refine Go.seq ?_
  obtain ⟨x10, hx10, h⟩ := bs h
  obtain ⟨t_16_m1, hm9, h⟩ := bs h
  refine Go.rX c114 rfl rfl rfl (mk [(1, .v false [.im 2 (.row 3 (List.map e_S_Cutting list_1))]), (2, .v false [.mp 2 0 0]), (16, bv t_16_m1)] [(2, some ⟨0, 0, false, true, false, true, [⟨.imm, 0, 0, .sc (.string b_0.Name)⟩, ⟨.imm, 0, 0, .sc (.int .i64 b_0.Life)⟩, ⟨.imm, 0, 0, .sc (.int .i64 b_0.Price)⟩, ⟨.imm, 0, 0, .sc (.int .i64 b_0.Speed)⟩]⟩)]) ?_ ?_
  · by_cases hc1 : x10 = true
    · rw [if_pos hc1] at hm9
      obtain ⟨x14, hx14, hm9⟩ := bs hm9
      cases hm9
      exact ⟨_, sqn z114 rfl (oLd (cs := [.im 0 _, .im 0 _, .im 0 _, .im 0 _]) rfl tF54 rfl rfl) <| sqn z114 rfl (oCa (xs := [.v true [.im 0 _, .im 0 _, .im 0 _, .im 0 _]]) (vs := [(false, [.im 0 _])]) (v := .v false [.im 0 _]) (L_impl_ValidBlade hx10) (.inl rfl) rfl kF197_54 rfl (ppC rfl pp0) rfl rfl pb0 rfl rfl rfl) <| sqn z114 rfl (oUn rfl rfl rfl) <| sqn z114 rfl (oMv rfl rfl) <| sgTn z114 rfl rfl rfl (nF (Iff.rfl.2 hc1)) (oMv rfl rfl) <| sgTn z114 rfl rfl rfl (nF (Iff.rfl.2 hc1)) (oCa (xs := [.v false [.im 2 _]]) (vs := [(false, [.im 0 _])]) (v := .v false [.im 0 _]) (L_impl_ValidCuttings hx14) (.inl rfl) rfl kF198_56 rfl (ppC rfl pp0) rfl rfl pb0 rfl rfl rfl) <| sgTn z114 rfl rfl rfl (nF (Iff.rfl.2 hc1)) (oUn rfl rfl rfl) <| sqn z114 rfl (oPkF rfl rfl (nF (Iff.rfl.2 hc1)) rfl) <| nl, (by kernel_rfl)⟩
    · rw [if_neg hc1] at hm9
      cases hm9
      exact ⟨_, sqn z114 rfl (oLd (cs := [.im 0 _, .im 0 _, .im 0 _, .im 0 _]) rfl tF54 rfl rfl) <| sqn z114 rfl (oCa (xs := [.v true [.im 0 _, .im 0 _, .im 0 _, .im 0 _]]) (vs := [(false, [.im 0 _])]) (v := .v false [.im 0 _]) (L_impl_ValidBlade hx10) (.inl rfl) rfl kF197_54 rfl (ppC rfl pp0) rfl rfl pb0 rfl rfl rfl) <| sqn z114 rfl (oUn rfl rfl rfl) <| sqn z114 rfl (oMv rfl rfl) <| sgF rfl rfl (nT (byF Iff.rfl hc1)) rfl <| sgF rfl rfl (nT (byF Iff.rfl hc1)) rfl <| sgF rfl rfl (nT (byF Iff.rfl hc1)) rfl <| sqn z114 rfl (oPkT rfl rfl (nT (byF Iff.rfl hc1)) rfl) <| nl, (by kernel_rfl)⟩
  · refine Unw.seq ?_
    by_cases hc2 : t_16_m1 = true
    · rw [if_pos hc2] at h
      refine Go.condT rfl (Iff.rfl.2 hc2) ?_
      refine Go.seq ?_
      refine Go.r0 c114 rfl rfl (sqf z114 rfl (oAsN rfl rfl eF27) (frzO rfl rfl rfl) <| sqn z114 rfl (oAsI rfl rfl) <| nl) ?_
      refine Unw.seq ?_
      refine Go.ret (Unw.ret ?_)
      cases h
      exact Fin_ret (fin_of rfl rF114 rfl (by kernel_rfl))
    · rw [if_neg hc2] at h
      refine Go.condF rfl (byF Iff.rfl hc2) ?_
      refine Go.skip ?_
      refine Unw.seq ?_
      refine Go.seq ?_
      refine Go.r0 c114 rfl rfl (sqn z114 rfl (oBS (es := List.map eI ([] : List Int)) rfl sF27 rfl pt0 (flat0 rfl fun _ => rfl)) <| sqn z114 rfl (oAsO rfl rfl rfl rfl rfl) <| nl) ?_
      refine Unw.seq ?_
      refine Go.seq ?_
      refine Go.seq ?_
      refine Go.r0 c114 rfl rfl (sqn z114 rfl (oMv rfl rfl) <| sqn z114 rfl (oLnI rfl rfl uF56 rfl) <| sqn z114 rfl (oMv rfl rfl) <| nl) ?_
      refine Unw.seq ?_
      refine Go.block ?_
      obtain ⟨o, hl, h⟩ := bs h
      refine Go.lp c114 rfl _ (fun (s : (Int × (List Int))) => match s with | (t_20_l5, out_o6_l5) => mk [(2, .v false [.mp 2 0 0]), (6, .v false [.own 6 0 0]), (18, .v false [.im 2 (.row 3 (List.map e_S_Cutting list_1))]), (19, iv (list_1.length : Int)), (20, iv t_20_l5)] [(2, some ⟨0, 0, false, true, false, true, [⟨.imm, 0, 0, .sc (.string b_0.Name)⟩, ⟨.imm, 0, 0, .sc (.int .i64 b_0.Life)⟩, ⟨.imm, 0, 0, .sc (.int .i64 b_0.Price)⟩, ⟨.imm, 0, 0, .sc (.int .i64 b_0.Speed)⟩]⟩), (6, some ⟨0, 0, false, false, false, false, [⟨.sh, 0, 0, .row 1 (List.map eI out_o6_l5)⟩]⟩)]) (fun (o : ((List Int) ⊕ ((List Int) × Int))) (p : Ex × St) => match o with | (.inl out_o6_e0_5) => p.1 = .exit 0 ∧ p.2.norm ([6], [6]) = mk [(6, .v false [.own 6 0 0])] [(6, some ⟨0, 0, false, false, false, false, [⟨.sh, 0, 0, .row 1 (List.map eI out_o6_e0_5)⟩]⟩)] | (.inr r2) => p.1 = .ret ∧ fin Try.prog cfg 114 Try.f114 [.im 2 true [.sc (.string b_0.Name), .sc (.int .i64 b_0.Life), .sc (.int .i64 b_0.Price), .sc (.int .i64 b_0.Speed)], .im 2 false [.row 3 (List.map e_S_Cutting list_1)]] p.2 = some ([(false, [.im 0 (.row 1 (List.map eI r2.1))]), (false, [.im 0 (.sc (.int .i64 r2.2))])], [])) hl (by kernel_rfl) ?_ ?_ ?_
      · intro o p hp e
        rcases o with out_o6_e0_5 | r2 <;> exact nomatch (hp.1.symm.trans e)
      · rintro ⟨t_20_l5, out_o6_l5⟩ o h
        unfold impl_wears_l5 at h
        dsimp only at h
        refine Go.seq ?_
        refine Go.r0 c114 rfl rfl (sqn z114 rfl (oBi rfl rfl rfl rfl) <| nl) ?_
        refine Unw.seq ?_
        refine Go.seq ?_
        by_cases hc7 : t_20_l5 < (list_1.length : Int)
        · rw [if_pos hc7] at h
          refine Go.condT rfl (iDec.2 hc7) ?_
          refine Go.skip ?_
          refine Unw.seq ?_
          refine Go.seq ?_
          refine Go.block ?_
          refine Go.seq ?_
          obtain ⟨x22, hx22, h⟩ := bs h
          refine Go.r0 c114 rfl rfl (sqn z114 rfl (oIAI rfl hx22 sF56 rfl rfl) <| sqn z114 rfl (oLd (cs := [.im 2 _, .im 2 _, .im 2 _]) rfl tF163 rfl rfl) <| sqn z114 rfl (oAl rfl tF163 (tkI (tkI (tkI tk0)))) <| sq0 (oSt tF163 rfl rfl rfl (tkI (tkI (tkI tk0))) rfl rfl rfl) <| nl) ?_
          refine Unw.seq ?_
          refine Go.seq ?_
          refine Go.seq ?_
          obtain ⟨x25, hx25, h⟩ := bs h
          refine Go.dr c114 rfl rfl rfl (st1 := mk [(2, .v false [.mp 2 0 0]), (6, .v false [.own 6 0 0]), (8, .v false [.mp 8 0 0]), (18, .v false [.im 2 (.row 3 (List.map e_S_Cutting list_1))]), (19, iv (list_1.length : Int)), (20, iv t_20_l5)] [(2, some ⟨0, 0, false, true, false, true, [⟨.imm, 0, 0, .sc (.string b_0.Name)⟩, ⟨.imm, 0, 0, .sc (.int .i64 b_0.Life)⟩, ⟨.imm, 0, 0, .sc (.int .i64 b_0.Price)⟩, ⟨.imm, 0, 0, .sc (.int .i64 b_0.Speed)⟩]⟩), (6, some ⟨0, 0, false, false, false, false, [⟨.sh, 0, 0, .row 1 (List.map eI out_o6_l5)⟩]⟩), (8, some ⟨0, 0, false, true, false, true, [⟨.imm, 0, 0, .sc (.string x22.Name)⟩, ⟨.imm, 0, 0, .sc (.int .i64 x22.Length)⟩, ⟨.imm, 0, 0, .sc (.int .i64 x22.Hardness)⟩]⟩)]) (by kernel_rfl) (mk [(2, .v false [.mp 2 0 0]), (6, .v false [.own 6 0 0]), (8, .v false [.mp 8 0 0]), (18, .v false [.im 2 (.row 3 (List.map e_S_Cutting list_1))]), (19, iv (list_1.length : Int)), (20, iv t_20_l5), (28, bv (decide (x25 > b_0.Life)))] [(2, some ⟨0, 0, false, true, false, true, [⟨.imm, 0, 0, .sc (.string b_0.Name)⟩, ⟨.imm, 0, 0, .sc (.int .i64 b_0.Life)⟩, ⟨.imm, 0, 0, .sc (.int .i64 b_0.Price)⟩, ⟨.imm, 0, 0, .sc (.int .i64 b_0.Speed)⟩]⟩), (6, some ⟨0, 0, false, false, false, false, [⟨.sh, 0, 0, .row 1 (List.map eI out_o6_l5)⟩]⟩), (8, some ⟨0, 0, false, true, false, true, [⟨.imm, 0, 0, .sc (.string x22.Name)⟩, ⟨.imm, 0, 0, .sc (.int .i64 x22.Length)⟩, ⟨.imm, 0, 0, .sc (.int .i64 x22.Hardness)⟩]⟩)]) (sT rfl (dNn z114 rfl rfl (oLd (cs := [.im 0 _, .im 0 _, .im 0 _]) rfl tF163 rfl rfl)) <| sT rfl (dNn z114 rfl rfl (oFA (r' := .mp 2 0 1) rfl fF54_1 rfl rfl)) <| sT rfl (dNn z114 rfl rfl (oLd (cs := [.im 0 _]) rfl tF2 rfl rfl)) <| sS (dNn z114 rfl rfl (oCa (xs := [.v true [.im 0 _, .im 0 _, .im 0 _]]) (vs := [(false, [.im 0 _])]) (v := .v false [.im 0 _]) (L_impl_wear hx25) (.inl rfl) rfl kF199_163 rfl (ppC rfl pp0) rfl rfl pb0 rfl rfl rfl)) trivial (sT rfl (dNn z114 rfl rfl (oBi rfl rfl rfl rfl)) <| sD (by kernel_rfl))) ?_
          refine Unw.seq ?_
          by_cases hc8 : x25 > b_0.Life
          · rw [if_pos hc8] at h
            refine Go.condT rfl (iDec.2 hc8) ?_
            refine Go.seq ?_
            refine Go.r0 c114 rfl rfl (sqf z114 rfl (oAsN rfl rfl eF27) (frzO rfl rfl rfl) <| sqn z114 rfl (oAsI rfl rfl) <| nl) ?_
            refine Unw.seq ?_
            refine Go.ret (Unw.ret ?_)
            cases h
            exact ⟨rfl, (fin_of rfl rF114 rfl (by kernel_rfl))⟩
          · rw [if_neg hc8] at h
            refine Go.condF rfl (byF iDec hc8) ?_
            refine Go.skip ?_
            refine Unw.seq ?_
            obtain ⟨x31, hx31, h⟩ := bs h
            obtain ⟨x33, hx33, h⟩ := bs h
            refine Go.r0 c114 rfl rfl (sqn z114 rfl (oMv rfl rfl) <| sqn z114 rfl (oLd (cs := [.im 0 _, .im 0 _, .im 0 _]) rfl tF163 rfl rfl) <| sqn z114 rfl (oCa (xs := [.v true [.im 0 _, .im 0 _, .im 0 _]]) (vs := [(false, [.im 0 _])]) (v := .v false [.im 0 _]) (L_impl_wear hx31) (.inl rfl) rfl kF199_163 rfl (ppC rfl pp0) rfl rfl pb0 rfl rfl rfl) <| sqn z114 rfl (oBS (es := List.map eI ([x31] : List Int)) rfl sF27 rfl (ptC rfl (fxI fx0) rfl pt0) (flat0 rfl fun _ => rfl)) <| sqn z114 rfl (oApO (en := eI) (M := ([x31] : List Int)) rfl hx33 rfl sF27 rfl rfl uF27 (.inl ⟨_, rfl⟩) rfl rfl rfl rfl (el_own rfl rfl) (flat0 rfl fun _ => rfl)) <| sqn z114 rfl (oAsO rfl rfl rfl rfl rfl) <| nl) ?_
            refine Unw.blk ?_
            refine Unw.seq ?_
            refine Go.r0 c114 rfl rfl (sqn z114 rfl (oBi rfl rfl rfl rfl) <| sqn z114 rfl (oMv rfl rfl) <| nl) ?_
            refine Unw.nil ?_
            cases h
            exact ⟨rfl, (by kernel_rfl)⟩
        · rw [if_neg hc7] at h
          refine Go.condF rfl (byF iDec hc7) ?_
          refine Go.exit ?_
          refine Unw.seqx ?_
          refine Unw.nil ?_
          cases h
          exact ⟨rfl, (by kernel_rfl)⟩
      · rintro ⟨e, st⟩ hp
        rcases o with out_o6_e0_5 | r2
        · dsimp only at h
          obtain ⟨he, hst⟩ := hp
          obtain rfl : e = .exit 0 := he
          refine Unw.blkx ?_
          refine Unw.seq ?_
          refine Go.seq ?_
          refine Go.r1 c114 rfl rfl hst (sqn z114 rfl (oMv rfl rfl) <| sqf z114 rfl (oAsO rfl rfl rfl rfl rfl) (frzO rfl rfl rfl) <| sqn z114 rfl (oAsI rfl rfl) <| nl) ?_
          refine Unw.seq ?_
          refine Go.ret (Unw.ret ?_)
          cases h
          exact Fin_ret (fin_of rfl rF114 rfl (by kernel_rfl))
        · dsimp only at h
          obtain ⟨he, hfin⟩ := hp
          obtain rfl : e = .ret := he
          cases h
          exact Unw.ret (Fin_ret hfin)
theorem L_impl_bladeSearch_run_F {self : (S_bladeSearch × (List Int) × (List Int) × Int) → Option ((List Int) × Int × S_bladeSearch)} (ih : ∀ {s_0 : S_bladeSearch} {choice_1 : (List Int)} {used_2 : (List Int)} {most_3 : Int} {r : ((List Int) × Int × S_bladeSearch)}, self (s_0, choice_1, used_2, most_3) = some r → FL Try.prog cfg 115 [.ptr true [(.imm, .row 1 (List.map eI s_0.wears)), (.imm, .sc (.int .i64 s_0.life)), (.imm, .sc (.int .i64 s_0.left))], .mv 1 (List.map eI choice_1), .im 2 false [.row 1 (List.map eI used_2)], .im 2 false [.sc (.int .i64 most_3)]] = some ([(false, [.ow 0 1 (List.map eI r.1)]), (false, [.im 0 (.sc (.int .i64 r.2.1))])], [.ptr true [(.imm, .row 1 (List.map eI r.2.2.wears)), (.imm, .sc (.int .i64 r.2.2.life)), (.imm, .sc (.int .i64 r.2.2.left))]])) {s_0 : S_bladeSearch} {choice_1 : (List Int)} {used_2 : (List Int)} {most_3 : Int} {r : ((List Int) × Int × S_bladeSearch)} (h : impl_bladeSearch_run_F self s_0 choice_1 used_2 most_3 = some r) : FL Try.prog cfg 115 [.ptr true [(.imm, .row 1 (List.map eI s_0.wears)), (.imm, .sc (.int .i64 s_0.life)), (.imm, .sc (.int .i64 s_0.left))], .mv 1 (List.map eI choice_1), .im 2 false [.row 1 (List.map eI used_2)], .im 2 false [.sc (.int .i64 most_3)]] = some ([(false, [.ow 0 1 (List.map eI r.1)]), (false, [.im 0 (.sc (.int .i64 r.2.1))])], [.ptr true [(.imm, .row 1 (List.map eI r.2.2.wears)), (.imm, .sc (.int .i64 r.2.2.life)), (.imm, .sc (.int .i64 r.2.2.left))]]) := by
  unfold impl_bladeSearch_run_F at h
  refine FL_goS (A := [(0, .v false [.mp 0 0 0]), (1, .v false [.own 1 0 0]), (2, .v false [.im 2 (.row 1 (List.map eI used_2))]), (3, .v false [.im 2 (.sc (.int .i64 most_3))])]) (B := [(0, some ⟨0, 0, true, true, false, true, [⟨.imm, 0, 1, .row 1 (List.map eI s_0.wears)⟩, ⟨.imm, 0, 0, .sc (.int .i64 s_0.life)⟩, ⟨.imm, 0, 0, .sc (.int .i64 s_0.left)⟩]⟩), (1, some ⟨0, 0, false, false, false, false, [⟨.sh, 0, 0, .row 1 (List.map eI choice_1)⟩]⟩), (2, none), (3, none)]) (nt := 98) rfl rfl Try.func115 rfl rfl rfl rfl ?_
  refine Go.seq ?_
  refine Go.r0 c115 rfl rfl (sq z115 (oAsN rfl rfl eF27) <| sq z115 (oAsI rfl rfl) <| nl) ?_
  refine Unw.seq ?_
  refine Go.seq ?_
  refine Go.seq ?_
  refine Go.r0 c115 rfl rfl (sq z115 (oMv rfl rfl) <| sq z115 (oLnO rfl rfl uF27 rfl rfl rfl (fun e => nomatch e)) <| sq z115 (oMv rfl rfl) <| sq z115 (oNl rfl rfl rfl) <| sq z115 (oFA (r' := .mp 0 0 0) rfl fF168_0 rfl rfl) <| sq z115 (oLd (cs := [.im 1 _]) rfl tF27 rfl rfl) <| sq z115 (oLnI rfl rfl uF27 rfl) <| sq z115 (oBi rfl rfl rfl rfl) <| nl) ?_
  refine Unw.seq ?_
  by_cases hc1 : (choice_1.length : Int) = (s_0.wears.length : Int)
  · rw [if_pos hc1] at h
    refine Go.condT rfl (iEq.2 hc1) ?_
    refine Go.seq ?_
    refine Go.r0 c115 rfl rfl (sq z115 (oMv rfl rfl) <| sq z115 (oAsO rfl rfl rfl rfl rfl) <| sq z115 (oAsI rfl rfl) <| nl) ?_
    refine Unw.seq ?_
    refine Go.ret (Unw.ret ?_)
    cases h
    exact Fin_ret (fin_of rfl rF115 rfl (by kernel_rfl))
  · rw [if_neg hc1] at h
    refine Go.condF rfl (byF iEq hc1) ?_
    refine Go.skip ?_
    refine Unw.seq ?_
    refine Go.seq ?_
    obtain ⟨x30, hx30, h⟩ := bs h
    refine Go.r0 c115 rfl rfl (sq z115 (oMv rfl rfl) <| sq z115 (oNl rfl rfl rfl) <| sq z115 (oFA (r' := .mp 0 0 0) rfl fF168_0 rfl rfl) <| sq z115 (oLd (cs := [.im 1 _]) rfl tF27 rfl rfl) <| sq z115 (oMv rfl rfl) <| sq z115 (oLnO rfl rfl uF27 rfl rfl rfl (fun e => nomatch e)) <| sq z115 (oIAI rfl hx30 sF27 rfl rfl) <| sq z115 (oLd (cs := [.im 1 _]) rfl tF2 rfl rfl) <| sq z115 (oAsI rfl rfl) <| nl) ?_
    refine Unw.seq ?_
    refine Go.seq ?_
    refine Go.seq ?_
    refine Go.r0 c115 rfl rfl (sq z115 (oAsI rfl rfl) <| nl) ?_
    refine Unw.seq ?_
    refine Go.block ?_
    obtain ⟨o, hl, h⟩ := bs h
    refine Go.lp c115 rfl _ (fun (s : (Int × (List Int) × Int × Int)) => match s with | (k_11_l5, s_o0_0_l5, s_o0_1_l5, s_o0_2_l5) => mk [(0, .v false [.mp 0 0 0]), (1, .v false [.own 1 0 0]), (2, .v false [.im 2 (.row 1 (List.map eI used_2))]), (3, iv most_3), (10, iv x30), (11, iv k_11_l5)] [(0, some ⟨0, 0, true, true, false, true, [⟨.imm, 0, 1, .row 1 (List.map eI s_o0_0_l5)⟩, ⟨.imm, 0, 0, .sc (.int .i64 s_o0_1_l5)⟩, ⟨.imm, 0, 0, .sc (.int .i64 s_o0_2_l5)⟩]⟩), (1, some ⟨0, 0, false, false, false, false, [⟨.sh, 0, 0, .row 1 (List.map eI choice_1)⟩]⟩)]) (fun (o : (((List Int) × Int × Int) ⊕ ((List Int) × Int × S_bladeSearch))) (p : Ex × St) => match o with | (.inl (s_o0_0_e0_5, s_o0_1_e0_5, s_o0_2_e0_5)) => p.1 = .exit 0 ∧ p.2.norm ([], [0]) = mk [] [(0, some ⟨0, 0, true, true, false, true, [⟨.imm, 0, 1, .row 1 (List.map eI s_o0_0_e0_5)⟩, ⟨.imm, 0, 0, .sc (.int .i64 s_o0_1_e0_5)⟩, ⟨.imm, 0, 0, .sc (.int .i64 s_o0_2_e0_5)⟩]⟩)] | (.inr r2) => p.1 = .ret ∧ fin Try.prog cfg 115 Try.f115 [.ptr true [(.imm, .row 1 (List.map eI s_0.wears)), (.imm, .sc (.int .i64 s_0.life)), (.imm, .sc (.int .i64 s_0.left))], .mv 1 (List.map eI choice_1), .im 2 false [.row 1 (List.map eI used_2)], .im 2 false [.sc (.int .i64 most_3)]] p.2 = some ([(false, [.ow 0 1 (List.map eI r2.1)]), (false, [.im 0 (.sc (.int .i64 r2.2.1))])], [.ptr true [(.imm, .row 1 (List.map eI r2.2.2.wears)), (.imm, .sc (.int .i64 r2.2.2.life)), (.imm, .sc (.int .i64 r2.2.2.left))]])) hl (by kernel_rfl) ?_ ?_ ?_
    · intro o p hp e
      rcases o with ⟨s_o0_0_e0_5, s_o0_1_e0_5, s_o0_2_e0_5⟩ | r2 <;> exact nomatch (hp.1.symm.trans e)
    · rintro ⟨k_11_l5, s_o0_0_l5, s_o0_1_l5, s_o0_2_l5⟩ o h
      unfold impl_bladeSearch_run_l5 at h
      dsimp only at h
      refine Go.seq ?_
      refine Go.seq ?_
      refine Go.rX c115 rfl rfl rfl (mk [(0, .v false [.mp 0 0 0]), (1, .v false [.own 1 0 0]), (2, .v false [.im 2 (.row 1 (List.map eI used_2))]), (3, iv most_3), (10, iv x30), (11, iv k_11_l5), (40, bv ((decide (k_11_l5 ≤ (used_2.length : Int))) && (decide (k_11_l5 < most_3))))] [(0, some ⟨0, 0, true, true, false, true, [⟨.imm, 0, 1, .row 1 (List.map eI s_o0_0_l5)⟩, ⟨.imm, 0, 0, .sc (.int .i64 s_o0_1_l5)⟩, ⟨.imm, 0, 0, .sc (.int .i64 s_o0_2_l5)⟩]⟩), (1, some ⟨0, 0, false, false, false, false, [⟨.sh, 0, 0, .row 1 (List.map eI choice_1)⟩]⟩)]) ?_ ?_
      · by_cases hc14 : k_11_l5 ≤ (used_2.length : Int)
        · exact ⟨_, sq z115 (oMv rfl rfl) <| sq z115 (oMv rfl rfl) <| sq z115 (oLnI rfl rfl uF27 rfl) <| sq z115 (oBi rfl rfl rfl rfl) <| sq z115 (oMv rfl rfl) <| sgT z115 rfl rfl (iDec.2 hc14) (oMv rfl rfl) <| sgT z115 rfl rfl (iDec.2 hc14) (oMv rfl rfl) <| sgT z115 rfl rfl (iDec.2 hc14) (oBi rfl rfl rfl rfl) <| sq z115 (oPkT rfl rfl (iDec.2 hc14) rfl) <| nl, (Eq.trans (b := (fun t_40_m5 : Bool => mk [(0, .v false [.mp 0 0 0]), (1, .v false [.own 1 0 0]), (2, .v false [.im 2 (.row 1 (List.map eI used_2))]), (3, iv most_3), (10, iv x30), (11, iv k_11_l5), (40, bv t_40_m5)] [(0, some ⟨0, 0, true, true, false, true, [⟨.imm, 0, 1, .row 1 (List.map eI s_o0_0_l5)⟩, ⟨.imm, 0, 0, .sc (.int .i64 s_o0_1_l5)⟩, ⟨.imm, 0, 0, .sc (.int .i64 s_o0_2_l5)⟩]⟩), (1, some ⟨0, 0, false, false, false, false, [⟨.sh, 0, 0, .row 1 (List.map eI choice_1)⟩]⟩)]) (decide (k_11_l5 < most_3))) (by kernel_rfl) (congrArg (fun t_40_m5 : Bool => mk [(0, .v false [.mp 0 0 0]), (1, .v false [.own 1 0 0]), (2, .v false [.im 2 (.row 1 (List.map eI used_2))]), (3, iv most_3), (10, iv x30), (11, iv k_11_l5), (40, bv t_40_m5)] [(0, some ⟨0, 0, true, true, false, true, [⟨.imm, 0, 1, .row 1 (List.map eI s_o0_0_l5)⟩, ⟨.imm, 0, 0, .sc (.int .i64 s_o0_1_l5)⟩, ⟨.imm, 0, 0, .sc (.int .i64 s_o0_2_l5)⟩]⟩), (1, some ⟨0, 0, false, false, false, false, [⟨.sh, 0, 0, .row 1 (List.map eI choice_1)⟩]⟩)]) (by first | rfl | simp [(iDec.2 hc14)])))⟩
        · exact ⟨_, sq z115 (oMv rfl rfl) <| sq z115 (oMv rfl rfl) <| sq z115 (oLnI rfl rfl uF27 rfl) <| sq z115 (oBi rfl rfl rfl rfl) <| sq z115 (oMv rfl rfl) <| sgF rfl rfl (byF iDec hc14) rfl <| sgF rfl rfl (byF iDec hc14) rfl <| sgF rfl rfl (byF iDec hc14) rfl <| sq z115 (oPkF rfl rfl (byF iDec hc14) rfl) <| nl, (Eq.trans (b := (fun t_40_m5 : Bool => mk [(0, .v false [.mp 0 0 0]), (1, .v false [.own 1 0 0]), (2, .v false [.im 2 (.row 1 (List.map eI used_2))]), (3, iv most_3), (10, iv x30), (11, iv k_11_l5), (40, bv t_40_m5)] [(0, some ⟨0, 0, true, true, false, true, [⟨.imm, 0, 1, .row 1 (List.map eI s_o0_0_l5)⟩, ⟨.imm, 0, 0, .sc (.int .i64 s_o0_1_l5)⟩, ⟨.imm, 0, 0, .sc (.int .i64 s_o0_2_l5)⟩]⟩), (1, some ⟨0, 0, false, false, false, false, [⟨.sh, 0, 0, .row 1 (List.map eI choice_1)⟩]⟩)]) false) (by kernel_rfl) (congrArg (fun t_40_m5 : Bool => mk [(0, .v false [.mp 0 0 0]), (1, .v false [.own 1 0 0]), (2, .v false [.im 2 (.row 1 (List.map eI used_2))]), (3, iv most_3), (10, iv x30), (11, iv k_11_l5), (40, bv t_40_m5)] [(0, some ⟨0, 0, true, true, false, true, [⟨.imm, 0, 1, .row 1 (List.map eI s_o0_0_l5)⟩, ⟨.imm, 0, 0, .sc (.int .i64 s_o0_1_l5)⟩, ⟨.imm, 0, 0, .sc (.int .i64 s_o0_2_l5)⟩]⟩), (1, some ⟨0, 0, false, false, false, false, [⟨.sh, 0, 0, .row 1 (List.map eI choice_1)⟩]⟩)]) (by first | rfl | simp [(byF iDec hc14)])))⟩
      · refine Unw.seq ?_
        by_cases hc15 : (k_11_l5 ≤ (used_2.length : Int) ∧ k_11_l5 < most_3)
        · rw [if_pos hc15] at h
          refine Go.condT rfl ((iAnd iDec iDec).2 hc15) ?_
          refine Go.skip ?_
          refine Unw.seq ?_
          refine Go.seq ?_
          refine Go.join (fun st => ∃ s_o0_0_r6, ∃ s_o0_1_r6, ∃ s_o0_2_r6, impl_bladeSearch_run_k6 self k_11_l5 s_o0_0_r6 s_o0_1_r6 s_o0_2_r6 = some o ∧ st.norm ([0, 1, 2, 3, 10, 11], [0, 1]) = mk [(0, .v false [.mp 0 0 0]), (1, .v false [.own 1 0 0]), (2, .v false [.im 2 (.row 1 (List.map eI used_2))]), (3, iv most_3), (10, iv x30), (11, iv k_11_l5)] [(0, some ⟨0, 0, true, true, false, true, [⟨.imm, 0, 1, .row 1 (List.map eI s_o0_0_r6)⟩, ⟨.imm, 0, 0, .sc (.int .i64 s_o0_1_r6)⟩, ⟨.imm, 0, 0, .sc (.int .i64 s_o0_2_r6)⟩]⟩), (1, some ⟨0, 0, false, false, false, false, [⟨.sh, 0, 0, .row 1 (List.map eI choice_1)⟩]⟩)]) ?_ ?_
          · rintro st ⟨s_o0_0_r6, s_o0_1_r6, s_o0_2_r6, h, hst⟩
            unfold impl_bladeSearch_run_k6 at h
            refine Unw.seq ?_
            refine Go.r1 c115 rfl rfl hst (sq z115 (oMv rfl rfl) <| sq z115 (oBi rfl rfl rfl rfl) <| sq z115 (oAsI rfl rfl) <| nl) ?_
            refine Unw.nil ?_
            cases h
            exact ⟨rfl, (by kernel_rfl)⟩
          · intro K20
            refine Go.block ?_
            refine Go.seq ?_
            obtain ⟨x44, hx44, h⟩ := bs h
            refine Go.r0 c115 rfl rfl (sq z115 (oMv rfl rfl) <| sq z115 (oCr (xs := [.v false [.im 2 _]]) (vs := [(false, [.own 44 0 0])]) (v := .v false [.own 44 0 0]) (c := ⟨.sh, 0, _⟩) (cs := []) (FL_cloneN (en := eI) (L := used_2) rfl hx44 (fun _ => rfl)) (.inl rfl) rfl kF187_27 rfl (ppC rfl pp0) rfl rfl pb0 rfl rfl rfl) <| sq z115 (oAsO rfl rfl rfl rfl rfl) <| nl) ?_
            refine Unw.seq ?_
            refine Go.seq ?_
            refine Go.seq ?_
            refine Go.r0 c115 rfl rfl (sq z115 (oMv rfl rfl) <| sq z115 (oMv rfl rfl) <| sq z115 (oLnI rfl rfl uF27 rfl) <| sq z115 (oBi rfl rfl rfl rfl) <| nl) ?_
            refine Unw.seq ?_
            refine Go.join (fun st => ∃ next_o12_r10, impl_bladeSearch_run_k10 self choice_1 k_11_l5 most_3 s_o0_0_l5 s_o0_1_l5 s_o0_2_l5 x30 next_o12_r10 = some o ∧ st.norm ([0, 1, 2, 3, 10, 11, 12], [0, 1, 12]) = mk [(0, .v false [.mp 0 0 0]), (1, .v false [.own 1 0 0]), (2, .v false [.im 2 (.row 1 (List.map eI used_2))]), (3, iv most_3), (10, iv x30), (11, iv k_11_l5), (12, .v false [.own 12 0 0])] [(0, some ⟨0, 0, true, true, false, true, [⟨.imm, 0, 1, .row 1 (List.map eI s_o0_0_l5)⟩, ⟨.imm, 0, 0, .sc (.int .i64 s_o0_1_l5)⟩, ⟨.imm, 0, 0, .sc (.int .i64 s_o0_2_l5)⟩]⟩), (1, some ⟨0, 0, false, false, false, false, [⟨.sh, 0, 0, .row 1 (List.map eI choice_1)⟩]⟩), (12, some ⟨0, 0, false, false, false, false, [⟨.sh, 0, 0, .row 1 (List.map eI next_o12_r10)⟩]⟩)]) ?_ ?_
            · rintro st ⟨next_o12_r10, h, hst⟩
              unfold impl_bladeSearch_run_k10 at h
              refine Unw.seq ?_
              refine Go.seq ?_
              refine Go.seq ?_
              obtain ⟨x54, hx54, h⟩ := bs h
              refine Go.dr c115 rfl rfl rfl hst (mk [(0, .v false [.mp 0 0 0]), (1, .v false [.own 1 0 0]), (2, .v false [.im 2 (.row 1 (List.map eI used_2))]), (3, iv most_3), (10, iv x30), (11, iv k_11_l5), (12, .v false [.own 12 0 0]), (62, bv (decide ((w64 (x54 + x30)) > s_o0_1_l5)))] [(0, some ⟨0, 0, true, true, false, true, [⟨.imm, 0, 1, .row 1 (List.map eI s_o0_0_l5)⟩, ⟨.imm, 0, 0, .sc (.int .i64 s_o0_1_l5)⟩, ⟨.imm, 0, 0, .sc (.int .i64 s_o0_2_l5)⟩]⟩), (1, some ⟨0, 0, false, false, false, false, [⟨.sh, 0, 0, .row 1 (List.map eI choice_1)⟩]⟩), (12, some ⟨0, 0, false, false, false, false, [⟨.sh, 0, 0, .row 1 (List.map eI next_o12_r10)⟩]⟩)]) (sT rfl (dN z115 rfl (oMv rfl rfl)) <| sT rfl (dN z115 rfl (oMv rfl rfl)) <| sT rfl (dN z115 rfl (oIAO rfl hx54 sF27 rfl rfl rfl rfl)) <| sT rfl (dN z115 rfl (oLdE (cs := [.im 0 _]) rfl tF2 rfl rfl rfl (fun e => nomatch e) (rd_get hx54) rfl rfl)) <| sT rfl (dN z115 rfl (oMv rfl rfl)) <| sT rfl (dN z115 rfl (oBi rfl rfl rfl rfl)) <| sT rfl (dN z115 rfl (oMv rfl rfl)) <| sT rfl (dN z115 rfl (oNl rfl rfl rfl)) <| sT rfl (dN z115 rfl (oFA (r' := .mp 0 0 1) rfl fF168_1 rfl rfl)) <| sT rfl (dN z115 rfl (oLd (cs := [.im 0 _]) rfl tF2 rfl rfl)) <| sT rfl (dN z115 rfl (oBi rfl rfl rfl rfl)) <| sD (by kernel_rfl)) ?_
              refine Unw.seq ?_
              by_cases hc22 : (w64 (x54 + x30)) > s_o0_1_l5
              · rw [if_pos hc22] at h
                refine Go.condT rfl (iDec.2 hc22) ?_
                refine Go.exit ?_
                refine Unw.seqx ?_
                refine Unw.blkx ?_
                exact K20 _ ⟨s_o0_0_l5, s_o0_1_l5, s_o0_2_l5, h, (by kernel_rfl)⟩
              · rw [if_neg hc22] at h
                refine Go.condF rfl (byF iDec hc22) ?_
                refine Go.skip ?_
                refine Unw.seq ?_
                refine Go.seq ?_
                refine Go.seq ?_
                refine Go.r0 c115 rfl rfl (sq z115 (oMv rfl rfl) <| sq z115 (oNl rfl rfl rfl) <| sq z115 (oFA (r' := .mp 0 0 2) rfl fF168_2 rfl rfl) <| sq z115 (oLd (cs := [.im 0 _]) rfl tF2 rfl rfl) <| sq z115 (oBi rfl rfl rfl rfl) <| nl) ?_
                refine Unw.seq ?_
                by_cases hc23 : s_o0_2_l5 = 0
                · rw [if_pos hc23] at h
                  refine Go.condT rfl (iEq.2 hc23) ?_
                  refine Go.seq ?_
                  refine Go.r0 c115 rfl rfl (sq z115 (oAsN rfl rfl eF27) <| sq z115 (oAsI rfl rfl) <| nl) ?_
                  refine Unw.seq ?_
                  refine Go.ret (Unw.ret ?_)
                  cases h
                  exact ⟨rfl, (fin_of rfl rF115 rfl (by kernel_rfl))⟩
                · rw [if_neg hc23] at h
                  refine Go.condF rfl (byF iEq hc23) ?_
                  refine Go.skip ?_
                  refine Unw.seq ?_
                  refine Go.seq ?_
                  refine Go.r0 c115 rfl rfl (sq z115 (oMv rfl rfl) <| sq z115 (oNl rfl rfl rfl) <| sq z115 (oFA (r' := .mp 0 0 2) rfl fF168_2 rfl rfl) <| sq z115 (oLd (cs := [.im 0 _]) rfl tF2 rfl rfl) <| sq z115 (oBi rfl rfl rfl rfl) <| sq z115 (oNl rfl rfl rfl) <| sq z115 (oFA (r' := .mp 0 0 2) rfl fF168_2 rfl rfl) <| sq z115 (oSt tF2 rfl rfl rfl (tkI tk0) rfl rfl rfl) <| nl) ?_
                  refine Unw.seq ?_
                  refine Go.seq ?_
                  obtain ⟨x77, hx77, h⟩ := bs h
                  obtain ⟨x81, hx81, h⟩ := bs h
                  refine Go.r1 c115 rfl rfl (st1 := mk [(0, .v false [.mp 0 0 0]), (1, .v false [.own 1 0 0]), (2, .v false [.im 2 (.row 1 (List.map eI used_2))]), (3, iv most_3), (10, iv x30), (11, iv k_11_l5), (12, .v false [.own 12 0 0])] [(0, some ⟨0, 0, true, true, false, true, [⟨.imm, 0, 1, .row 1 (List.map eI s_o0_0_l5)⟩, ⟨.imm, 0, 0, .sc (.int .i64 s_o0_1_l5)⟩, ⟨.imm, 0, 0, .sc (.int .i64 (w64 (s_o0_2_l5 - 1)))⟩]⟩), (1, some ⟨0, 0, false, false, false, false, [⟨.sh, 0, 0, .row 1 (List.map eI choice_1)⟩]⟩), (12, some ⟨0, 0, false, false, false, false, [⟨.sh, 0, 0, .row 1 (List.map eI next_o12_r10)⟩]⟩)]) (by kernel_rfl) (sq z115 (oMv rfl rfl) <| sq z115 (oMv rfl rfl) <| sq z115 (oIAO rfl hx77 sF27 rfl rfl rfl rfl) <| sq z115 (oLdE (cs := [.im 0 _]) rfl tF2 rfl rfl rfl (fun e => nomatch e) (rd_get hx77) rfl rfl) <| sq z115 (oMv rfl rfl) <| sq z115 (oBi rfl rfl rfl rfl) <| sq z115 (oIAO rfl hx81 sF27 rfl rfl rfl rfl) <| sq z115 (oStE (v' := (w64 (x77 + x30))) tF2 rfl rfl rfl (fxI fx0) rfl rfl (rd_get hx81) rfl) <| nl) ?_
                  refine Unw.seq ?_
                  refine Go.seq ?_
                  obtain ⟨x85, hx85, h⟩ := bs h
                  obtain ⟨x88, hx88, h⟩ := bs h
                  obtain ⟨x91, hx91, h⟩ := bs h
                  refine Go.r1 c115 rfl rfl (st1 := mk [(0, .v false [.mp 0 0 0]), (1, .v false [.own 1 0 0]), (2, .v false [.im 2 (.row 1 (List.map eI used_2))]), (3, iv most_3), (10, iv x30), (11, iv k_11_l5), (12, .v false [.own 12 0 0])] [(0, some ⟨0, 0, true, true, false, true, [⟨.imm, 0, 1, .row 1 (List.map eI s_o0_0_l5)⟩, ⟨.imm, 0, 0, .sc (.int .i64 s_o0_1_l5)⟩, ⟨.imm, 0, 0, .sc (.int .i64 (w64 (s_o0_2_l5 - 1)))⟩]⟩), (1, some ⟨0, 0, false, false, false, false, [⟨.sh, 0, 0, .row 1 (List.map eI choice_1)⟩]⟩), (12, some ⟨0, 0, false, false, false, false, [⟨.sh, 0, 0, .row 1 (List.map eI (next_o12_r10.set k_11_l5.toNat (w64 (x77 + x30))))⟩]⟩)]) (by kernel_rfl) (sq z115 (oMv rfl rfl) <| sq z115 (oMv rfl rfl) <| sq z115 (oCr (xs := [.v false [.own 1 0 0]]) (vs := [(false, [.own 85 0 0])]) (v := .v false [.own 85 0 0]) (c := ⟨.sh, 0, _⟩) (cs := []) (FL_cloneN (en := eI) (L := choice_1) rfl hx85 (fun _ => rfl)) (.inl rfl) rfl kF187_27 rfl (ppC rfl pp0) rfl rfl pb0 rfl rfl rfl) <| sq z115 (oMv rfl rfl) <| sq z115 (oBS (es := List.map eI ([k_11_l5] : List Int)) rfl sF27 rfl (ptC rfl (fxI fx0) rfl pt0) (flat0 rfl fun _ => rfl)) <| sq z115 (oApO (en := eI) (M := ([k_11_l5] : List Int)) rfl hx88 rfl sF27 rfl rfl uF27 (.inl ⟨_, rfl⟩) rfl rfl rfl rfl (el_own rfl rfl) (flat0 rfl fun _ => rfl)) <| sq z115 (oMv rfl rfl) <| sq z115 (oMv rfl rfl) <| sq z115 (oCr (xs := [.v false [.mp 0 0 0], .v false [.own 88 0 0], .v false [.own 12 0 0], .v false [.im 0 _]]) (vs := [(false, [.own 91 0 0]), (false, [.im 0 _])]) (v := .tup [(false, [.own 91 0 0]), (false, [.im 0 _])]) (c := ⟨.sh, 0, _⟩) (cs := []) (ih hx91) (.inl rfl) rfl kF115_166_27_27_3 rfl (ppP rfl rfl rfl (ppM (take_own rfl rfl) (ppC rfl (ppC rfl pp0)))) rfl rfl (pbP rfl rfl pb0) rfl rfl rfl) <| sq z115 (oMvT rfl rfl) <| sq z115 (oEx rfl rfl rfl) <| sq z115 (oEx rfl rfl rfl) <| sq z115 (oAsO rfl rfl rfl rfl rfl) <| sq z115 (oAsI rfl rfl) <| nl) ?_
                  refine Unw.seq ?_
                  refine Go.seq ?_
                  refine Go.r1 c115 rfl rfl (st1 := mk [(0, .v false [.mp 0 0 0]), (1, .v false [.own 1 0 0]), (2, .v false [.im 2 (.row 1 (List.map eI used_2))]), (3, iv most_3), (10, iv x30), (11, iv k_11_l5), (13, .v false [.own 13 0 0]), (14, iv x91.2.1)] [(0, some ⟨0, 0, true, true, false, true, [⟨.imm, 0, 1, .row 1 (List.map eI x91.2.2.wears)⟩, ⟨.imm, 0, 0, .sc (.int .i64 x91.2.2.life)⟩, ⟨.imm, 0, 0, .sc (.int .i64 x91.2.2.left)⟩]⟩), (1, some ⟨0, 0, false, false, false, false, [⟨.sh, 0, 0, .row 1 (List.map eI choice_1)⟩]⟩), (13, some ⟨0, 0, false, false, false, false, [⟨.sh, 0, 0, .row 1 (List.map eI x91.1)⟩]⟩)]) (by kernel_rfl) (sq z115 (oMv rfl rfl) <| sq z115 (oBi rfl rfl rfl rfl) <| nl) ?_
                  refine Unw.seq ?_
                  by_cases hc24 : x91.2.1 ≠ 3
                  · rw [if_pos hc24] at h
                    refine Go.condT rfl (iNe.2 hc24) ?_
                    refine Go.seq ?_
                    refine Go.r0 c115 rfl rfl (sq z115 (oMv rfl rfl) <| sq z115 (oMv rfl rfl) <| sq z115 (oAsO rfl rfl rfl rfl rfl) <| sq z115 (oAsI rfl rfl) <| nl) ?_
                    refine Unw.seq ?_
                    refine Go.ret (Unw.ret ?_)
                    cases h
                    exact ⟨rfl, (fin_of rfl rF115 rfl (by kernel_rfl))⟩
                  · rw [if_neg hc24] at h
                    refine Go.condF rfl (byF iNe hc24) ?_
                    refine Go.skip ?_
                    refine Unw.blk ?_
                    exact K20 _ ⟨x91.2.2.wears, x91.2.2.life, x91.2.2.left, h, (by kernel_rfl)⟩
            · intro K25
              by_cases hc26 : k_11_l5 = (used_2.length : Int)
              · rw [if_pos hc26] at h
                refine Go.condT rfl (iEq.2 hc26) ?_
                obtain ⟨x51, hx51, h⟩ := bs h
                refine Go.r0 c115 rfl rfl (sq z115 (oMv rfl rfl) <| sq z115 (oBS (es := List.map eI ([0] : List Int)) rfl sF27 rfl (ptC rfl (fxI fx0) rfl pt0) (flat0 rfl fun _ => rfl)) <| sq z115 (oApO (en := eI) (M := ([0] : List Int)) rfl hx51 rfl sF27 rfl rfl uF27 (.inl ⟨_, rfl⟩) rfl rfl rfl rfl (el_own rfl rfl) (flat0 rfl fun _ => rfl)) <| sq z115 (oAsO rfl rfl rfl rfl rfl) <| nl) ?_
                exact K25 _ ⟨x51, h, (by kernel_rfl)⟩
              · rw [if_neg hc26] at h
                refine Go.condF rfl (byF iEq hc26) ?_
                refine Go.skip ?_
                exact K25 _ ⟨x44, h, (by kernel_rfl)⟩
        · rw [if_neg hc15] at h
          refine Go.condF rfl (byF (iAnd iDec iDec) hc15) ?_
          refine Go.exit ?_
          refine Unw.seqx ?_
          refine Unw.nil ?_
          cases h
          exact ⟨rfl, (by kernel_rfl)⟩
    · rintro ⟨e, st⟩ hp
      rcases o with ⟨s_o0_0_e0_5, s_o0_1_e0_5, s_o0_2_e0_5⟩ | r2
      · dsimp only at h
        obtain ⟨he, hst⟩ := hp
        obtain rfl : e = .exit 0 := he
        refine Unw.blkx ?_
        refine Unw.seq ?_
        refine Go.seq ?_
        refine Go.r1 c115 rfl rfl hst (sq z115 (oAsN rfl rfl eF27) <| sq z115 (oAsI rfl rfl) <| nl) ?_
        refine Unw.seq ?_
        refine Go.ret (Unw.ret ?_)
        cases h
        exact Fin_ret (fin_of rfl rF115 rfl (by kernel_rfl))
      · dsimp only at h
        obtain ⟨he, hfin⟩ := hp
        obtain rfl : e = .ret := he
        cases h
        exact Unw.ret (Fin_ret hfin)
theorem L_impl_bladeSearch_run {s_0 : S_bladeSearch} {choice_1 : (List Int)} {used_2 : (List Int)} {most_3 : Int} {r : ((List Int) × Int × S_bladeSearch)} (h : impl_bladeSearch_run s_0 choice_1 used_2 most_3 = some r) : FL Try.prog cfg 115 [.ptr true [(.imm, .row 1 (List.map eI s_0.wears)), (.imm, .sc (.int .i64 s_0.life)), (.imm, .sc (.int .i64 s_0.left))], .mv 1 (List.map eI choice_1), .im 2 false [.row 1 (List.map eI used_2)], .im 2 false [.sc (.int .i64 most_3)]] = some ([(false, [.ow 0 1 (List.map eI r.1)]), (false, [.im 0 (.sc (.int .i64 r.2.1))])], [.ptr true [(.imm, .row 1 (List.map eI r.2.2.wears)), (.imm, .sc (.int .i64 r.2.2.life)), (.imm, .sc (.int .i64 r.2.2.left))]]) := by
  unfold impl_bladeSearch_run at h
  obtain ⟨n, hn⟩ := fixO_iter h
  clear h
  induction n generalizing s_0 choice_1 used_2 most_3 r with
  | zero => cases hn
  | succ n ihn => exact L_impl_bladeSearch_run_F (self := iterO _ n) (fun h => ihn h) hn
end
end Go.Proofs.Ytigjhjlkdamncaa
