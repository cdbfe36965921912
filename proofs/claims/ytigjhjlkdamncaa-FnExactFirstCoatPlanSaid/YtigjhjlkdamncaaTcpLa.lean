/- The machine answers, at each function of the program that is reached, what its plain function answers. Conditions: none. -/
import Derived.Test.YtigjhjlkdamncaaProg
import Derived.KernelRfl
import Derived.Test.YtigjhjlkdamncaaSimRf
import Derived.Test.YtigjhjlkdamncaaTcpT
namespace Go.Proofs.Ytigjhjlkdamncaa
open Go Go.Sim Go.Pw Go.Proofs
set_option linter.unusedVariables false
set_option linter.unusedSimpArgs false
set_option maxRecDepth 100000
set_option maxHeartbeats 4000000
noncomputable section

def e_S_Coat (x : S_Coat) : AV := .agg [.sc (.string x.Name), .sc (.int .i64 x.Work), .sc (.int .i64 x.Dry), .sc (.int .i64 x.Wait)]
def e_S_l22Search (x : S_l22Search) : AV := .agg [.row 4 (List.map e_S_Coat x.list), .sc (.int .i64 x.start), .sc (.int .i64 x.open_), .sc (.int .i64 x.end_), .row 1 (List.map eI x.begins), .sc (.int .i64 x.nodes), .sc (.int .i64 x.budget), .sc (.bool x.full)]
def e_S_coatSearch (x : S_coatSearch) : AV := .agg [.row 4 (List.map e_S_Coat x.list), .sc (.int .i64 x.open_), .sc (.int .i64 x.end_), .sc (.int .i64 x.left)]

def fc4 : FCfg := { par := [.cst false, .cst false, .cst false, .cst false, .cst false], inn := [(14, some ([0, 1, 2, 3, 4, 12, 13, 15, 16, 17], [12, 15])), (18, some ([0, 1, 2, 3, 4, 12, 13, 15, 18], [12, 15]))], out := [(8, some ([0, 1, 2, 3, 4, 12, 13, 14, 15, 16, 56], [12, 14, 15])), (14, some ([0, 1, 2, 3, 4, 12, 13, 15, 77], [12, 15])), (25, some ([15, 18, 107], [15]))], loopK := [], frz := [], sch := [] }
def fc17 : FCfg := { par := [.cst false, .cst false, .cst false, .cst false, .cst false], inn := [], out := [], loopK := [], frz := [], sch := [] }
def fc24 : FCfg := { par := [.cst false, .cst false], inn := [(10, some ([1], []))], out := [], loopK := [(5, ([0, 1, 5], []))], frz := [], sch := [] }
def fc25 : FCfg := { par := [.cst false, .cst false, .cst false, .cst false, .cst false], inn := [(4, some ([0, 1, 2, 3, 4, 12], [])), (9, some ([13], [39])), (10, some ([13], [39])), (11, some ([13], [39]))], out := [(2, some ([0, 1, 2, 3, 4, 12, 25], []))], loopK := [], frz := [], sch := [] }
def fc26 : FCfg := { par := [.cst false], inn := [(4, some ([0, 3, 4], [3])), (6, some ([3], [3]))], out := [], loopK := [(3, ([0, 3, 4], [3]))], frz := [], sch := [] }
def fc27 : FCfg := { par := [.cst false, .cst false], inn := [(8, some ([], []))], out := [(6, some ([0, 1, 5, 25], []))], loopK := [(4, ([0, 1, 5], []))], frz := [], sch := [(6, .first 0 [2, 3, 8] [1, 4, 5, 6, 7] (.first 1 [2, 3, 8] [4, 5, 6, 7] (.first 2 [3, 8] [4, 5, 6, 7] (.first 3 [8] [4, 5, 6, 7] (.first 4 [6, 7, 8] [5] (.first 5 [6, 7, 8] [] (.first 6 [7, 8] [] (.first 7 [8] [] (.first 8 [] [] (.done))))))))))] }
def fc28 : FCfg := { par := [.cst false, .cst false], inn := [(8, some ([], []))], out := [(6, some ([0, 1, 5, 26], []))], loopK := [(4, ([0, 1, 5], []))], frz := [], sch := [(6, .first 0 [2, 3, 8, 9] [1, 4, 5, 6, 7] (.first 1 [2, 3, 8, 9] [4, 5, 6, 7] (.first 2 [3, 8, 9] [4, 5, 6, 7] (.first 3 [8, 9] [4, 5, 6, 7] (.first 4 [6, 7, 8, 9] [5] (.first 5 [6, 7, 8, 9] [] (.first 6 [7, 8, 9] [] (.first 7 [8, 9] [] (.fork 8 (.first 9 [] [] (.done)) (.stop))))))))))] }
def fc29 : FCfg := { par := [.row, .cst false], inn := [(5, some ([0, 1, 5], [0])), (7, some ([0, 1, 5], [0])), (9, some ([0, 1, 5], [0])), (11, some ([0, 1, 5], [0])), (12, some ([1], [0]))], out := [], loopK := [(2, ([0, 1, 5], [0]))], frz := [], sch := [] }
def fc30 : FCfg := { par := [.row, .cst false], inn := [(5, some ([0, 1, 5], [0])), (6, some ([1], [0]))], out := [], loopK := [(2, ([0, 1, 5], [0]))], frz := [], sch := [] }
def fc31 : FCfg := { par := [.cst false, .cst false], inn := [(7, some ([1], []))], out := [], loopK := [(2, ([0, 1, 5], []))], frz := [], sch := [] }
def fc88 : FCfg := { par := [.cst false, .cst false, .cst false, .cst false, .cst false], inn := [], out := [(3, some ([0, 7, 8, 15], [7, 8]))], loopK := [], frz := [], sch := [] }
def fc90 : FCfg := { par := [.ptr [.imm, .imm, .imm, .imm], .mv, .cst false, .cst false], inn := [(4, some ([0, 1, 2, 3, 10], [0, 1, 10])), (6, some ([0, 1, 3, 10, 11], [0, 1, 10])), (11, some ([0, 1, 3, 10, 11], [0, 1, 10])), (14, some ([], [0]))], out := [(7, some ([0, 1, 3, 10, 11, 49], [0, 1, 10])), (11, some ([0, 1, 3, 10, 11, 12, 13], [0, 1, 10, 12]))], loopK := [(5, ([0, 1, 3, 10, 11], [0, 1, 10]))], frz := [], sch := [(7, .first 0 [11, 12] [1, 2, 3, 4, 5, 6, 7, 8, 9, 10] (.first 1 [2, 3, 4, 11, 12] [5, 6, 7, 8, 9, 10] (.first 2 [3, 4, 11, 12] [5, 6, 7, 8, 9, 10] (.first 3 [4, 11, 12] [5, 6, 7, 8, 9, 10] (.first 4 [11, 12] [5, 6, 7, 8, 9, 10] (.first 5 [6, 7, 8, 11, 12] [9, 10] (.first 6 [7, 8, 11, 12] [9, 10] (.first 7 [8, 11, 12] [9, 10] (.first 8 [11, 12] [9, 10] (.first 9 [10, 11, 12] [] (.first 10 [11, 12] [] (.fork 11 (.first 12 [] [] (.done)) (.stop))))))))))))), (11, .first 0 [20, 21, 22, 23, 24, 25] [1, 2, 3, 4, 5, 6, 7, 8, 9, 10, 11, 12, 13, 14, 15, 16, 17, 18, 19] (.first 1 [2, 5, 20, 21, 22, 23, 24, 25] [3, 4, 6, 7, 8, 9, 10, 11, 12, 13, 14, 15, 16, 17, 18, 19] (.first 3 [4, 5, 20, 21, 22, 23, 24, 25] [2, 6, 7, 8, 9, 10, 11, 12, 13, 14, 15, 16, 17, 18, 19] (.first 6 [9, 12, 20, 21, 22, 23, 24, 25] [2, 4, 5, 7, 8, 10, 11, 13, 14, 15, 16, 17, 18, 19] (.first 13 [16, 19, 20, 21, 22, 23, 24, 25] [2, 4, 5, 7, 8, 9, 10, 11, 12, 14, 15, 17, 18] (.first 7 [8, 9, 12, 20, 21, 22, 23, 24, 25] [2, 4, 5, 10, 11, 14, 15, 16, 17, 18, 19] (.first 8 [9, 12, 20, 21, 22, 23, 24, 25] [2, 4, 5, 10, 11, 14, 15, 16, 17, 18, 19] (.first 9 [12, 20, 21, 22, 23, 24, 25] [2, 4, 5, 10, 11, 14, 15, 16, 17, 18, 19] (.first 10 [11, 12, 20, 21, 22, 23, 24, 25] [2, 4, 5, 14, 15, 16, 17, 18, 19] (.first 11 [12, 20, 21, 22, 23, 24, 25] [2, 4, 5, 14, 15, 16, 17, 18, 19] (.first 12 [20, 21, 22, 23, 24, 25] [2, 4, 5, 14, 15, 16, 17, 18, 19] (.first 14 [15, 16, 19, 20, 21, 22, 23, 24, 25] [2, 4, 5, 17, 18] (.first 15 [16, 19, 20, 21, 22, 23, 24, 25] [2, 4, 5, 17, 18] (.first 16 [19, 20, 21, 22, 23, 24, 25] [2, 4, 5, 17, 18] (.first 17 [18, 19, 20, 21, 22, 23, 24, 25] [2, 4, 5] (.first 18 [19, 20, 21, 22, 23, 24, 25] [2, 4, 5] (.first 19 [20, 21, 22, 23, 24, 25] [2, 4, 5] (.fork 2 (.fork 4 (.fork 5 (.fork 20 (.first 21 [22, 23, 24, 25] [] (.first 22 [24, 25] [23] (.first 23 [25] [24] (.fork 24 (.fork 25 (.done) (.stop)) (.stop))))) (.stop)) (.stop)) (.stop)) (.fork 4 (.fork 2 (.fork 5 (.fork 20 (.first 21 [22, 23, 24, 25] [] (.first 22 [24, 25] [23] (.first 23 [25] [24] (.fork 24 (.fork 25 (.done) (.stop)) (.stop))))) (.stop)) (.stop)) (.stop)) (.stop))))))))))))))))))))] }
def fc91 : FCfg := { par := [.cst false], inn := [], out := [(1, some ([2], []))], loopK := [], frz := [], sch := [] }
def fc92 : FCfg := { par := [.cst false, .cst false, .cst false], inn := [], out := [(1, some ([6], []))], loopK := [], frz := [], sch := [] }
def fc93 : FCfg := { par := [.cst false, .cst false], inn := [], out := [(1, some ([4], []))], loopK := [], frz := [], sch := [] }
def fc94 : FCfg := { par := [.cst false, .cst false, .cst false, .cst false], inn := [], out := [(1, some ([8], []))], loopK := [], frz := [], sch := [] }
def fc100 : FCfg := { par := [.cst false, .cst false], inn := [], out := [], loopK := [], frz := [], sch := [] }
def fc101 : FCfg := { par := [.cst false, .cst false, .cst false, .cst false], inn := [], out := [(3, some ([20], []))], loopK := [], frz := [], sch := [] }
def fc102 : FCfg := { par := [.cst false, .cst false, .cst false], inn := [], out := [(1, some ([6], []))], loopK := [], frz := [], sch := [] }
def fc103 : FCfg := { par := [.cst false, .cst false, .cst false], inn := [(6, some ([], []))], out := [], loopK := [(2, ([0, 1, 2, 7], []))], frz := [], sch := [] }
def fc104 : FCfg := { par := [.ptr [.imm, .imm, .imm, .imm, .sh, .imm, .imm, .imm]], inn := [(10, some ([0, 3, 4, 5], [0])), (12, some ([0, 3, 5, 7], [0])), (16, some ([0, 3, 5, 7], [0])), (19, some ([0, 3, 5, 7], [0])), (20, some ([0, 3, 5, 7], [0])), (21, some ([], [0])), (22, some ([0, 3, 5, 7], [0])), (23, some ([], [0]))], out := [(7, some ([0, 3, 6], [0])), (13, some ([0, 3, 5, 7, 96], [0])), (14, some ([0, 3, 5, 7, 105], [0]))], loopK := [(11, ([0, 3, 5, 7], [0]))], frz := [], sch := [(7, .first 0 [1, 2, 3, 6, 7, 17, 18] [4, 5, 8, 9, 10, 11, 12, 13, 14, 15, 16] (.first 1 [2, 3, 6, 7, 17, 18] [4, 5, 8, 9, 10, 11, 12, 13, 14, 15, 16] (.first 2 [3, 6, 7, 17, 18] [4, 5, 8, 9, 10, 11, 12, 13, 14, 15, 16] (.first 3 [6, 7, 17, 18] [4, 5, 8, 9, 10, 11, 12, 13, 14, 15, 16] (.first 4 [5, 6, 7, 17, 18] [8, 9, 10, 11, 12, 13, 14, 15, 16] (.first 5 [6, 7, 17, 18] [8, 9, 10, 11, 12, 13, 14, 15, 16] (.first 6 [7, 17, 18] [8, 9, 10, 11, 12, 13, 14, 15, 16] (.first 7 [17, 18] [8, 9, 10, 11, 12, 13, 14, 15, 16] (.first 8 [9, 10, 11, 14, 15, 16, 17, 18] [12, 13] (.first 9 [10, 11, 14, 15, 16, 17, 18] [12, 13] (.first 10 [11, 14, 15, 16, 17, 18] [12, 13] (.first 11 [14, 15, 16, 17, 18] [12, 13] (.first 12 [13, 14, 15, 16, 17, 18] [] (.first 13 [14, 15, 16, 17, 18] [] (.first 14 [15, 16, 17, 18] [] (.first 15 [16, 17, 18] [] (.first 16 [17, 18] [] (.first 17 [18] [] (.fork 18 (.done) (.stop)))))))))))))))))))), (13, .first 0 [17, 18] [1, 2, 3, 4, 5, 6, 7, 8, 9, 10, 11, 12, 13, 14, 15, 16] (.first 1 [2, 3, 4, 17, 18] [5, 6, 7, 8, 9, 10, 11, 12, 13, 14, 15, 16] (.first 2 [3, 4, 17, 18] [5, 6, 7, 8, 9, 10, 11, 12, 13, 14, 15, 16] (.first 3 [4, 17, 18] [5, 6, 7, 8, 9, 10, 11, 12, 13, 14, 15, 16] (.first 4 [17, 18] [5, 6, 7, 8, 9, 10, 11, 12, 13, 14, 15, 16] (.first 5 [6, 7, 8, 17, 18] [9, 10, 11, 12, 13, 14, 15, 16] (.first 6 [7, 8, 17, 18] [9, 10, 11, 12, 13, 14, 15, 16] (.first 7 [8, 17, 18] [9, 10, 11, 12, 13, 14, 15, 16] (.first 8 [17, 18] [9, 10, 11, 12, 13, 14, 15, 16] (.first 9 [10, 11, 12, 14, 15, 16, 17, 18] [13] (.first 10 [11, 12, 14, 15, 16, 17, 18] [13] (.first 11 [12, 14, 15, 16, 17, 18] [13] (.first 12 [14, 15, 16, 17, 18] [13] (.first 13 [14, 15, 16, 17, 18] [] (.first 14 [15, 16, 17, 18] [] (.first 15 [16, 17, 18] [] (.first 16 [17, 18] [] (.fork 17 (.first 18 [] [] (.done)) (.stop))))))))))))))))))), (14, .first 0 [1, 2, 3, 8] [4, 5, 6, 7] (.first 1 [2, 3, 8] [4, 5, 6, 7] (.first 2 [3, 8] [4, 5, 6, 7] (.first 3 [8] [4, 5, 6, 7] (.first 4 [5, 6, 7, 8] [] (.first 5 [6, 7, 8] [] (.first 6 [7, 8] [] (.first 7 [8] [] (.first 8 [] [] (.done))))))))))] }
def fc105 : FCfg := { par := [.cst false], inn := [], out := [], loopK := [], frz := [], sch := [] }
def fc106 : FCfg := { par := [.cst false], inn := [(3, some ([1, 2, 3], [1, 2, 3])), (4, some ([1, 2, 3], [1, 2, 3])), (5, some ([1, 2, 3], [1, 2, 3])), (6, some ([2, 3], [2, 3]))], out := [], loopK := [], frz := [], sch := [] }
def fc107 : FCfg := { par := [.cst false, .cst false], inn := [], out := [], loopK := [], frz := [], sch := [] }
def fc108 : FCfg := { par := [.cst false], inn := [(7, some ([3], []))], out := [], loopK := [(4, ([0, 3], []))], frz := [], sch := [] }
def fc185 : FCfg := { par := [.cst false, .cst false], inn := [], out := [], loopK := [], frz := [], sch := [] }
def fc186 : FCfg := { par := [.cst false], inn := [], out := [], loopK := [], frz := [], sch := [] }
def fc188 : FCfg := { par := [.cst false], inn := [], out := [], loopK := [], frz := [], sch := [] }
def fc189 : FCfg := { par := [.cst false], inn := [], out := [(1, some ([2], []))], loopK := [], frz := [], sch := [] }
def fc190 : FCfg := { par := [.cst false], inn := [(6, some ([0], []))], out := [], loopK := [(2, ([0, 3], []))], frz := [], sch := [] }
def fc191 : FCfg := { par := [.cst false], inn := [], out := [], loopK := [], frz := [], sch := [] }
def fc192 : FCfg := { par := [.cst false, .cst false], inn := [], out := [(1, some ([4], []))], loopK := [], frz := [], sch := [] }
def fc193 : FCfg := { par := [.cst false, .cst false, .cst false, .cst false], inn := [], out := [(2, some ([8], []))], loopK := [], frz := [], sch := [] }
def fc249 : FCfg := { par := [.cst false, .cst false], inn := [(7, some ([], []))], out := [], loopK := [(2, ([0, 1, 7, 8], []))], frz := [], sch := [] }
def fc250 : FCfg := { par := [.cst false], inn := [(8, some ([], []))], out := [(1, some ([0, 21], [])), (6, some ([0, 3, 49], []))], loopK := [(4, ([0, 3], []))], frz := [], sch := [] }
def fc251 : FCfg := { par := [.cst false], inn := [], out := [(1, some ([2], []))], loopK := [], frz := [], sch := [(1, .first 0 [1, 2, 3, 4, 5, 6, 7, 8, 9, 10, 11, 12, 13, 14, 15, 16, 17, 18, 19, 20, 21, 22, 23, 24, 25, 26, 27, 28, 29, 30] [] (.first 1 [2, 3, 4, 5, 6, 7, 8, 9, 10, 11, 12, 13, 14, 15, 16, 17, 18, 19, 20, 21, 22, 23, 24, 25, 26, 27, 28, 29, 30] [] (.first 2 [3, 4, 5, 6, 7, 8, 9, 10, 11, 12, 13, 14, 15, 16, 17, 18, 19, 20, 21, 22, 23, 24, 25, 26, 27, 28, 29, 30] [] (.first 3 [4, 5, 6, 7, 8, 9, 10, 11, 12, 13, 14, 15, 16, 17, 18, 19, 20, 21, 22, 23, 24, 25, 26, 27, 28, 29, 30] [] (.fork 4 (.first 5 [6, 7, 8, 9, 10, 11, 12, 13, 14, 15, 16, 17, 18, 19, 20, 21, 22, 23, 24, 25, 26, 27, 28, 29, 30] [] (.first 6 [7, 8, 9, 10, 11, 12, 13, 14, 15, 16, 17, 18, 19, 20, 21, 22, 23, 24, 25, 26, 27, 28, 29, 30] [] (.first 7 [8, 9, 10, 11, 12, 13, 14, 15, 16, 17, 18, 19, 20, 21, 22, 23, 24, 25, 26, 27, 28, 29, 30] [] (.first 8 [9, 10, 11, 12, 13, 14, 15, 16, 17, 18, 19, 20, 21, 22, 23, 24, 25, 26, 27, 28, 29, 30] [] (.first 9 [10, 11, 12, 13, 14, 15, 16, 17, 18, 19, 20, 21, 22, 23, 24, 25, 26, 27, 28, 29, 30] [] (.fork 10 (.first 11 [12, 13, 14, 15, 16, 17, 18, 19, 20, 21, 22, 23, 24, 25, 26, 27, 28, 29, 30] [] (.first 12 [13, 14, 15, 16, 17, 18, 19, 20, 21, 22, 23, 24, 25, 26, 27, 28, 29, 30] [] (.first 13 [14, 15, 16, 17, 18, 19, 20, 21, 22, 23, 24, 25, 26, 27, 28, 29, 30] [] (.first 14 [15, 16, 17, 18, 19, 20, 21, 22, 23, 24, 25, 26, 27, 28, 29, 30] [] (.first 15 [16, 17, 18, 19, 20, 21, 22, 23, 24, 25, 26, 27, 28, 29, 30] [] (.first 16 [17, 18, 19, 20, 21, 22, 23, 24, 25, 26, 27, 28, 29, 30] [] (.fork 17 (.first 18 [19, 20, 21, 22, 23, 24, 25, 26, 27, 28, 29, 30] [] (.first 19 [20, 21, 22, 23, 24, 25, 26, 27, 28, 29, 30] [] (.first 20 [21, 22, 23, 28, 29, 30] [24, 25, 26, 27] (.first 21 [22, 23, 28, 29, 30] [24, 25, 26, 27] (.first 22 [23, 28, 29, 30] [24, 25, 26, 27] (.first 23 [28, 29, 30] [24, 25, 26, 27] (.first 24 [25, 26, 27, 28, 29, 30] [] (.first 25 [26, 27, 28, 29, 30] [] (.first 26 [27, 28, 29, 30] [] (.first 27 [28, 29, 30] [] (.fork 28 (.first 29 [30] [] (.fork 30 (.done) (.stop))) (.stop)))))))))))) (.stop)))))))) (.stop))))))) (.stop))))))] }
def fc252 : FCfg := { par := [.cst false], inn := [(8, some ([], []))], out := [(1, some ([0, 16], [])), (6, some ([0, 3, 34], []))], loopK := [(4, ([0, 3], []))], frz := [], sch := [] }
def fc276 : FCfg := { par := [.cst false], inn := [], out := [(1, some ([2], []))], loopK := [], frz := [], sch := [] }
def fc277 : FCfg := { par := [.cst false], inn := [], out := [(1, some ([2], []))], loopK := [], frz := [], sch := [] }
def fcs : List (Nat × FCfg) := [(4, fc4), (17, fc17), (24, fc24), (25, fc25), (26, fc26), (27, fc27), (28, fc28), (29, fc29), (30, fc30), (31, fc31), (88, fc88), (90, fc90), (91, fc91), (92, fc92), (93, fc93), (94, fc94), (100, fc100), (101, fc101), (102, fc102), (103, fc103), (104, fc104), (105, fc105), (106, fc106), (107, fc107), (108, fc108), (185, fc185), (186, fc186), (188, fc188), (189, fc189), (190, fc190), (191, fc191), (192, fc192), (193, fc193), (249, fc249), (250, fc250), (251, fc251), (252, fc252), (276, fc276), (277, fc277)]
def ons : List (Nat × Bool) := [(4, true), (17, true), (24, true), (25, true), (26, true), (27, true), (28, true), (29, true), (30, true), (31, true), (88, true), (90, true), (91, true), (92, true), (93, true), (94, true), (100, true), (101, true), (102, true), (103, true), (104, true), (105, true), (106, true), (107, true), (108, true), (185, true), (186, true), (188, true), (189, true), (190, true), (191, true), (192, true), (193, true), (249, true), (250, true), (251, true), (252, true), (276, true), (277, true)]
def cfg : Cfg := mkCfg ons fcs [(187, some (extCloneN 1 8))]
theorem c4 : cfg.fc 4 = fc4 := rfl
theorem z4 : (cfg.fc 4).frz = [] := rfl
theorem c17 : cfg.fc 17 = fc17 := rfl
theorem z17 : (cfg.fc 17).frz = [] := rfl
theorem c24 : cfg.fc 24 = fc24 := rfl
theorem z24 : (cfg.fc 24).frz = [] := rfl
theorem c25 : cfg.fc 25 = fc25 := rfl
theorem z25 : (cfg.fc 25).frz = [] := rfl
theorem c26 : cfg.fc 26 = fc26 := rfl
theorem z26 : (cfg.fc 26).frz = [] := rfl
theorem c27 : cfg.fc 27 = fc27 := rfl
theorem z27 : (cfg.fc 27).frz = [] := rfl
theorem c28 : cfg.fc 28 = fc28 := rfl
theorem z28 : (cfg.fc 28).frz = [] := rfl
theorem c29 : cfg.fc 29 = fc29 := rfl
theorem z29 : (cfg.fc 29).frz = [] := rfl
theorem c30 : cfg.fc 30 = fc30 := rfl
theorem z30 : (cfg.fc 30).frz = [] := rfl
theorem c31 : cfg.fc 31 = fc31 := rfl
theorem z31 : (cfg.fc 31).frz = [] := rfl
theorem c88 : cfg.fc 88 = fc88 := rfl
theorem z88 : (cfg.fc 88).frz = [] := rfl
theorem c90 : cfg.fc 90 = fc90 := rfl
theorem z90 : (cfg.fc 90).frz = [] := rfl
theorem c91 : cfg.fc 91 = fc91 := rfl
theorem z91 : (cfg.fc 91).frz = [] := rfl
theorem c92 : cfg.fc 92 = fc92 := rfl
theorem z92 : (cfg.fc 92).frz = [] := rfl
theorem c93 : cfg.fc 93 = fc93 := rfl
theorem z93 : (cfg.fc 93).frz = [] := rfl
theorem c94 : cfg.fc 94 = fc94 := rfl
theorem z94 : (cfg.fc 94).frz = [] := rfl
theorem c100 : cfg.fc 100 = fc100 := rfl
theorem z100 : (cfg.fc 100).frz = [] := rfl
theorem c101 : cfg.fc 101 = fc101 := rfl
theorem z101 : (cfg.fc 101).frz = [] := rfl
theorem c102 : cfg.fc 102 = fc102 := rfl
theorem z102 : (cfg.fc 102).frz = [] := rfl
theorem c103 : cfg.fc 103 = fc103 := rfl
theorem z103 : (cfg.fc 103).frz = [] := rfl
theorem c104 : cfg.fc 104 = fc104 := rfl
theorem z104 : (cfg.fc 104).frz = [] := rfl
theorem c105 : cfg.fc 105 = fc105 := rfl
theorem z105 : (cfg.fc 105).frz = [] := rfl
theorem c106 : cfg.fc 106 = fc106 := rfl
theorem z106 : (cfg.fc 106).frz = [] := rfl
theorem c107 : cfg.fc 107 = fc107 := rfl
theorem z107 : (cfg.fc 107).frz = [] := rfl
theorem c108 : cfg.fc 108 = fc108 := rfl
theorem z108 : (cfg.fc 108).frz = [] := rfl
theorem c185 : cfg.fc 185 = fc185 := rfl
theorem z185 : (cfg.fc 185).frz = [] := rfl
theorem c186 : cfg.fc 186 = fc186 := rfl
theorem z186 : (cfg.fc 186).frz = [] := rfl
theorem c188 : cfg.fc 188 = fc188 := rfl
theorem z188 : (cfg.fc 188).frz = [] := rfl
theorem c189 : cfg.fc 189 = fc189 := rfl
theorem z189 : (cfg.fc 189).frz = [] := rfl
theorem c190 : cfg.fc 190 = fc190 := rfl
theorem z190 : (cfg.fc 190).frz = [] := rfl
theorem c191 : cfg.fc 191 = fc191 := rfl
theorem z191 : (cfg.fc 191).frz = [] := rfl
theorem c192 : cfg.fc 192 = fc192 := rfl
theorem z192 : (cfg.fc 192).frz = [] := rfl
theorem c193 : cfg.fc 193 = fc193 := rfl
theorem z193 : (cfg.fc 193).frz = [] := rfl
theorem c249 : cfg.fc 249 = fc249 := rfl
theorem z249 : (cfg.fc 249).frz = [] := rfl
theorem c250 : cfg.fc 250 = fc250 := rfl
theorem z250 : (cfg.fc 250).frz = [] := rfl
theorem c251 : cfg.fc 251 = fc251 := rfl
theorem z251 : (cfg.fc 251).frz = [] := rfl
theorem c252 : cfg.fc 252 = fc252 := rfl
theorem z252 : (cfg.fc 252).frz = [] := rfl
theorem c276 : cfg.fc 276 = fc276 := rfl
theorem z276 : (cfg.fc 276).frz = [] := rfl
theorem c277 : cfg.fc 277 = fc277 := rfl
theorem z277 : (cfg.fc 277).frz = [] := rfl
theorem bF132 : buildF Try.prog 132 = some ([.nil, .im 0 (.sc (.int .i64 0)), .im 0 (.sc (.int .i64 0)), .im 0 (.sc (.int .i64 0))], [(0, 1), (1, 1), (2, 1), (3, 1)]) := by kernel_rfl
theorem bF148 : buildF Try.prog 148 = some ([.nil, .im 0 (.sc (.int .i64 0)), .im 0 (.sc (.int .i64 0)), .im 0 (.sc (.int .i64 0)), .nil, .im 0 (.sc (.int .i64 0)), .im 0 (.sc (.int .i64 0)), .im 0 (.sc (.bool false))], [(0, 1), (1, 1), (2, 1), (3, 1), (4, 1), (5, 1), (6, 1), (7, 1)]) := by kernel_rfl
theorem eF24 : elemSz Try.prog 24 = some (128, 4) := by kernel_rfl
theorem eF27 : elemSz Try.prog 27 = some (2, 1) := by kernel_rfl
theorem fF128_0 : fieldF Try.prog 128 0 = some 0 := by kernel_rfl
theorem fF128_1 : fieldF Try.prog 128 1 = some 1 := by kernel_rfl
theorem fF128_2 : fieldF Try.prog 128 2 = some 2 := by kernel_rfl
theorem fF128_3 : fieldF Try.prog 128 3 = some 3 := by kernel_rfl
theorem fF132_0 : fieldF Try.prog 132 0 = some 0 := by kernel_rfl
theorem fF132_1 : fieldF Try.prog 132 1 = some 1 := by kernel_rfl
theorem fF132_2 : fieldF Try.prog 132 2 = some 2 := by kernel_rfl
theorem fF132_3 : fieldF Try.prog 132 3 = some 3 := by kernel_rfl
theorem fF143_0 : fieldF Try.prog 143 0 = some 0 := by kernel_rfl
theorem fF143_1 : fieldF Try.prog 143 1 = some 1 := by kernel_rfl
theorem fF143_2 : fieldF Try.prog 143 2 = some 2 := by kernel_rfl
theorem fF143_3 : fieldF Try.prog 143 3 = some 3 := by kernel_rfl
theorem fF148_0 : fieldF Try.prog 148 0 = some 0 := by kernel_rfl
theorem fF148_1 : fieldF Try.prog 148 1 = some 1 := by kernel_rfl
theorem fF148_2 : fieldF Try.prog 148 2 = some 2 := by kernel_rfl
theorem fF148_3 : fieldF Try.prog 148 3 = some 3 := by kernel_rfl
theorem fF148_4 : fieldF Try.prog 148 4 = some 4 := by kernel_rfl
theorem fF148_5 : fieldF Try.prog 148 5 = some 5 := by kernel_rfl
theorem fF148_6 : fieldF Try.prog 148 6 = some 6 := by kernel_rfl
theorem fF148_7 : fieldF Try.prog 148 7 = some 7 := by kernel_rfl
theorem kF100_143_3 : callK Try.prog cfg 100 0 [143, 3] = [(.cst false, [none, none, none, none]), (.cst false, [none])] := by kernel_rfl
theorem kF101_24_2_2_2 : callK Try.prog cfg 101 0 [24, 2, 2, 2] = [(.cst false, [some 4]), (.cst false, [none]), (.cst false, [none]), (.cst false, [none])] := by kernel_rfl
theorem kF102_2_2_2 : callK Try.prog cfg 102 0 [2, 2, 2] = [(.cst false, [none]), (.cst false, [none]), (.cst false, [none])] := by kernel_rfl
theorem kF103_24_2_2 : callK Try.prog cfg 103 0 [24, 2, 2] = [(.cst false, [some 4]), (.cst false, [none]), (.cst false, [none])] := by kernel_rfl
theorem kF104_146 : callK Try.prog cfg 104 0 [146] = [(.ptr [.imm, .imm, .imm, .imm, .sh, .imm, .imm, .imm], [none])] := by kernel_rfl
theorem kF105_27 : callK Try.prog cfg 105 0 [27] = [(.cst false, [some 1])] := by kernel_rfl
theorem kF106_143 : callK Try.prog cfg 106 0 [143] = [(.cst false, [none, none, none, none])] := by kernel_rfl
theorem kF107_128_128 : callK Try.prog cfg 107 0 [128, 128] = [(.cst false, [none, none, none, none]), (.cst false, [none, none, none, none])] := by kernel_rfl
theorem kF108_3 : callK Try.prog cfg 108 0 [3] = [(.cst false, [none])] := by kernel_rfl
theorem kF17_24_2_2_2_2 : callK Try.prog cfg 17 0 [24, 2, 2, 2, 2] = [(.cst false, [some 4]), (.cst false, [none]), (.cst false, [none]), (.cst false, [none]), (.cst false, [none])] := by kernel_rfl
theorem kF185_24_287 : callK Try.prog cfg 185 0 [24, 287] = [(.cst false, [some 4]), (.cst false, [none])] := by kernel_rfl
theorem kF186_128_0_0 : callK Try.prog cfg 186 0 [128, 0, 0] = [(.cst false, [none, none, none, none]), (.cst false, [none]), (.cst false, [none])] := by kernel_rfl
theorem kF187_27 : callK Try.prog cfg 187 0 [27] = [(.cst false, [some 1])] := by kernel_rfl
theorem kF188_128 : callK Try.prog cfg 188 0 [128] = [(.cst false, [none, none, none, none])] := by kernel_rfl
theorem kF189_128 : callK Try.prog cfg 189 0 [128] = [(.cst false, [none, none, none, none])] := by kernel_rfl
theorem kF190_24 : callK Try.prog cfg 190 0 [24] = [(.cst false, [some 4])] := by kernel_rfl
theorem kF191_2 : callK Try.prog cfg 191 0 [2] = [(.cst false, [none])] := by kernel_rfl
theorem kF192_2_2 : callK Try.prog cfg 192 0 [2, 2] = [(.cst false, [none]), (.cst false, [none])] := by kernel_rfl
theorem kF193_2_2_2_2 : callK Try.prog cfg 193 0 [2, 2, 2, 2] = [(.cst false, [none]), (.cst false, [none]), (.cst false, [none]), (.cst false, [none])] := by kernel_rfl
theorem kF249_24_287 : callK Try.prog cfg 249 0 [24, 287] = [(.cst false, [some 4]), (.cst false, [none])] := by kernel_rfl
theorem kF24_40_3 : callK Try.prog cfg 24 0 [40, 3] = [(.cst false, [some 4]), (.cst false, [none])] := by kernel_rfl
theorem kF250_9 : callK Try.prog cfg 250 0 [9] = [(.cst false, [none])] := by kernel_rfl
theorem kF251_342 : callK Try.prog cfg 251 0 [342] = [(.cst false, [none])] := by kernel_rfl
theorem kF252_9 : callK Try.prog cfg 252 0 [9] = [(.cst false, [none])] := by kernel_rfl
theorem kF25_24_2_2_2_2 : callK Try.prog cfg 25 0 [24, 2, 2, 2, 2] = [(.cst false, [some 4]), (.cst false, [none]), (.cst false, [none]), (.cst false, [none]), (.cst false, [none])] := by kernel_rfl
theorem kF26_40 : callK Try.prog cfg 26 0 [40] = [(.cst false, [some 4])] := by kernel_rfl
theorem kF276_5 : callK Try.prog cfg 276 0 [5] = [(.cst false, [none])] := by kernel_rfl
theorem kF277_5 : callK Try.prog cfg 277 0 [5] = [(.cst false, [none])] := by kernel_rfl
theorem kF27_27_27 : callK Try.prog cfg 27 0 [27, 27] = [(.cst false, [some 1]), (.cst false, [some 1])] := by kernel_rfl
theorem kF28_24_24 : callK Try.prog cfg 28 0 [24, 24] = [(.cst false, [some 4]), (.cst false, [some 4])] := by kernel_rfl
theorem kF29_24_3 : callK Try.prog cfg 29 0 [24, 3] = [(.row, [some 4]), (.cst false, [none])] := by kernel_rfl
theorem kF30_27_3 : callK Try.prog cfg 30 0 [27, 3] = [(.row, [some 1]), (.cst false, [none])] := by kernel_rfl
theorem kF31_27_3 : callK Try.prog cfg 31 0 [27, 3] = [(.cst false, [some 1]), (.cst false, [none])] := by kernel_rfl
theorem kF88_24_2_2_2_2 : callK Try.prog cfg 88 0 [24, 2, 2, 2, 2] = [(.cst false, [some 4]), (.cst false, [none]), (.cst false, [none]), (.cst false, [none]), (.cst false, [none])] := by kernel_rfl
theorem kF90_130_27_2_2 : callK Try.prog cfg 90 0 [130, 27, 2, 2] = [(.ptr [.imm, .imm, .imm, .imm], [none]), (.mv, [some 1]), (.cst false, [none]), (.cst false, [none])] := by kernel_rfl
theorem kF91_24 : callK Try.prog cfg 91 0 [24] = [(.cst false, [some 4])] := by kernel_rfl
theorem kF92_2_2_2 : callK Try.prog cfg 92 0 [2, 2, 2] = [(.cst false, [none]), (.cst false, [none]), (.cst false, [none])] := by kernel_rfl
theorem kF93_2_2 : callK Try.prog cfg 93 0 [2, 2] = [(.cst false, [none]), (.cst false, [none])] := by kernel_rfl
theorem kF94_2_2_2_2 : callK Try.prog cfg 94 0 [2, 2, 2, 2] = [(.cst false, [none]), (.cst false, [none]), (.cst false, [none]), (.cst false, [none])] := by kernel_rfl
theorem rF100 : resK Try.prog (Try.f100.results.toList.zip Try.f100.resultTypes.toList) = [(.tmp 4, [none], none)] := by kernel_rfl
theorem rF101 : resK Try.prog (Try.f101.results.toList.zip Try.f101.resultTypes.toList) = [(.tmp 8, [none], none)] := by kernel_rfl
theorem rF102 : resK Try.prog (Try.f102.results.toList.zip Try.f102.resultTypes.toList) = [(.tmp 6, [none], none)] := by kernel_rfl
theorem rF103 : resK Try.prog (Try.f103.results.toList.zip Try.f103.resultTypes.toList) = [(.tmp 6, [none], none)] := by kernel_rfl
theorem rF104 : resK Try.prog (Try.f104.results.toList.zip Try.f104.resultTypes.toList) = [(.tmp 2, [none], none)] := by kernel_rfl
theorem rF105 : resK Try.prog (Try.f105.results.toList.zip Try.f105.resultTypes.toList) = [(.tmp 2, [some 1], none)] := by kernel_rfl
theorem rF106 : resK Try.prog (Try.f106.results.toList.zip Try.f106.resultTypes.toList) = [(.cell 2 128, [none, none, none, none], some (true, 4))] := by kernel_rfl
theorem rF107 : resK Try.prog (Try.f107.results.toList.zip Try.f107.resultTypes.toList) = [(.tmp 4, [none], none)] := by kernel_rfl
theorem rF108 : resK Try.prog (Try.f108.results.toList.zip Try.f108.resultTypes.toList) = [(.tmp 2, [none], none)] := by kernel_rfl
theorem rF17 : resK Try.prog (Try.f17.results.toList.zip Try.f17.resultTypes.toList) = [(.tmp 10, [some 1], none), (.tmp 11, [none], none)] := by kernel_rfl
theorem rF185 : resK Try.prog (Try.f185.results.toList.zip Try.f185.resultTypes.toList) = [(.tmp 4, [none], none)] := by kernel_rfl
theorem rF186 : resK Try.prog (Try.f186.results.toList.zip Try.f186.resultTypes.toList) = [(.tmp 4, [none], none)] := by kernel_rfl
theorem rF187 : resK Try.prog (Try.f187.results.toList.zip Try.f187.resultTypes.toList) = [(.tmp 2, [some 1], none)] := by kernel_rfl
theorem rF188 : resK Try.prog (Try.f188.results.toList.zip Try.f188.resultTypes.toList) = [(.tmp 2, [none], none)] := by kernel_rfl
theorem rF189 : resK Try.prog (Try.f189.results.toList.zip Try.f189.resultTypes.toList) = [(.tmp 2, [none], none)] := by kernel_rfl
theorem rF190 : resK Try.prog (Try.f190.results.toList.zip Try.f190.resultTypes.toList) = [(.tmp 2, [none], none)] := by kernel_rfl
theorem rF191 : resK Try.prog (Try.f191.results.toList.zip Try.f191.resultTypes.toList) = [(.tmp 2, [none], none)] := by kernel_rfl
theorem rF192 : resK Try.prog (Try.f192.results.toList.zip Try.f192.resultTypes.toList) = [(.tmp 4, [none], none)] := by kernel_rfl
theorem rF193 : resK Try.prog (Try.f193.results.toList.zip Try.f193.resultTypes.toList) = [(.tmp 8, [none], none)] := by kernel_rfl
theorem rF24 : resK Try.prog (Try.f24.results.toList.zip Try.f24.resultTypes.toList) = [(.tmp 4, [none], none)] := by kernel_rfl
theorem rF249 : resK Try.prog (Try.f249.results.toList.zip Try.f249.resultTypes.toList) = [(.tmp 4, [none], none)] := by kernel_rfl
theorem rF25 : resK Try.prog (Try.f25.results.toList.zip Try.f25.resultTypes.toList) = [(.tmp 10, [some 1], none), (.tmp 11, [none], none)] := by kernel_rfl
theorem rF250 : resK Try.prog (Try.f250.results.toList.zip Try.f250.resultTypes.toList) = [(.tmp 2, [none], none)] := by kernel_rfl
theorem rF251 : resK Try.prog (Try.f251.results.toList.zip Try.f251.resultTypes.toList) = [(.tmp 2, [none], none)] := by kernel_rfl
theorem rF252 : resK Try.prog (Try.f252.results.toList.zip Try.f252.resultTypes.toList) = [(.tmp 2, [none], none)] := by kernel_rfl
theorem rF26 : resK Try.prog (Try.f26.results.toList.zip Try.f26.resultTypes.toList) = [(.tmp 2, [some 4], none)] := by kernel_rfl
theorem rF27 : resK Try.prog (Try.f27.results.toList.zip Try.f27.resultTypes.toList) = [(.tmp 4, [none], none)] := by kernel_rfl
theorem rF276 : resK Try.prog (Try.f276.results.toList.zip Try.f276.resultTypes.toList) = [(.tmp 2, [none], none)] := by kernel_rfl
theorem rF277 : resK Try.prog (Try.f277.results.toList.zip Try.f277.resultTypes.toList) = [(.tmp 2, [none], none)] := by kernel_rfl
theorem rF28 : resK Try.prog (Try.f28.results.toList.zip Try.f28.resultTypes.toList) = [(.tmp 4, [none], none)] := by kernel_rfl
theorem rF29 : resK Try.prog (Try.f29.results.toList.zip Try.f29.resultTypes.toList) = [(.tmp 4, [none], none)] := by kernel_rfl
theorem rF30 : resK Try.prog (Try.f30.results.toList.zip Try.f30.resultTypes.toList) = [(.tmp 4, [none], none)] := by kernel_rfl
theorem rF31 : resK Try.prog (Try.f31.results.toList.zip Try.f31.resultTypes.toList) = [(.tmp 4, [none], none)] := by kernel_rfl
theorem rF4 : resK Try.prog (Try.f4.results.toList.zip Try.f4.resultTypes.toList) = [(.tmp 10, [none], none)] := by kernel_rfl
theorem rF88 : resK Try.prog (Try.f88.results.toList.zip Try.f88.resultTypes.toList) = [(.tmp 10, [none], none)] := by kernel_rfl
theorem rF90 : resK Try.prog (Try.f90.results.toList.zip Try.f90.resultTypes.toList) = [(.tmp 8, [some 1], none), (.tmp 9, [none], none)] := by kernel_rfl
theorem rF91 : resK Try.prog (Try.f91.results.toList.zip Try.f91.resultTypes.toList) = [(.tmp 2, [none], none)] := by kernel_rfl
theorem rF92 : resK Try.prog (Try.f92.results.toList.zip Try.f92.resultTypes.toList) = [(.tmp 6, [none], none)] := by kernel_rfl
theorem rF93 : resK Try.prog (Try.f93.results.toList.zip Try.f93.resultTypes.toList) = [(.tmp 4, [none], none)] := by kernel_rfl
theorem rF94 : resK Try.prog (Try.f94.results.toList.zip Try.f94.resultTypes.toList) = [(.tmp 8, [none], none)] := by kernel_rfl
theorem sF22 : sliceF Try.prog 22 = some (5, 1, [none], false, 1, [.im 0 (.sc (.int .u8 0))]) := by kernel_rfl
theorem sF24 : sliceF Try.prog 24 = some (128, 4, [none, none, none, none], true, 40, [.im 0 (.sc (.string ⟨#[]⟩)), .im 0 (.sc (.int .i64 0)), .im 0 (.sc (.int .i64 0)), .im 0 (.sc (.int .i64 0))]) := by kernel_rfl
theorem sF27 : sliceF Try.prog 27 = some (2, 1, [none], false, 8, [.im 0 (.sc (.int .i64 0))]) := by kernel_rfl
theorem sF40 : sliceF Try.prog 40 = some (143, 4, [none, none, none, none], true, 40, [.im 0 (.sc (.string ⟨#[]⟩)), .im 0 (.sc (.int .i64 0)), .im 0 (.sc (.int .i64 0)), .im 0 (.sc (.int .i64 0))]) := by kernel_rfl
theorem tF128 : tyF Try.prog 128 = some ([.im 0 (.sc (.string ⟨#[]⟩)), .im 0 (.sc (.int .i64 0)), .im 0 (.sc (.int .i64 0)), .im 0 (.sc (.int .i64 0))], [none, none, none, none], true, 4) := by kernel_rfl
theorem tF132 : tyF Try.prog 132 = some ([.nil, .im 0 (.sc (.int .i64 0)), .im 0 (.sc (.int .i64 0)), .im 0 (.sc (.int .i64 0))], [some 4, none, none, none], true, 4) := by kernel_rfl
theorem tF143 : tyF Try.prog 143 = some ([.im 0 (.sc (.string ⟨#[]⟩)), .im 0 (.sc (.int .i64 0)), .im 0 (.sc (.int .i64 0)), .im 0 (.sc (.int .i64 0))], [none, none, none, none], true, 4) := by kernel_rfl
theorem tF148 : tyF Try.prog 148 = some ([.nil, .im 0 (.sc (.int .i64 0)), .im 0 (.sc (.int .i64 0)), .im 0 (.sc (.int .i64 0)), .nil, .im 0 (.sc (.int .i64 0)), .im 0 (.sc (.int .i64 0)), .im 0 (.sc (.bool false))], [some 4, none, none, none, some 1, none, none, none], true, 8) := by kernel_rfl
theorem tF2 : tyF Try.prog 2 = some ([.im 0 (.sc (.int .i64 0))], [none], false, 1) := by kernel_rfl
theorem tF24 : tyF Try.prog 24 = some ([.nil], [some 4], false, 1) := by kernel_rfl
theorem tF27 : tyF Try.prog 27 = some ([.nil], [some 1], false, 1) := by kernel_rfl
theorem tF4 : tyF Try.prog 4 = some ([.im 0 (.sc (.bool false))], [none], false, 1) := by kernel_rfl
theorem tF9 : tyF Try.prog 9 = some ([.im 0 (.sc (.string ⟨#[]⟩))], [none], false, 1) := by kernel_rfl
theorem uF22 : Try.prog.underlying 22 = some (.slice 5) := by kernel_rfl
theorem uF24 : Try.prog.underlying 24 = some (.slice 128) := by kernel_rfl
theorem uF27 : Try.prog.underlying 27 = some (.slice 2) := by kernel_rfl
theorem uF3 : Try.prog.underlying 3 = some (.int .i64) := by kernel_rfl
theorem uF40 : Try.prog.underlying 40 = some (.slice 143) := by kernel_rfl
theorem uF5 : Try.prog.underlying 5 = some (.int .u8) := by kernel_rfl
theorem uF9 : Try.prog.underlying 9 = some .string := by kernel_rfl

theorem L_laws_szCoat {a_0 : S_Coat} {left_1 : Int} {r : Int} (h : laws_szCoat a_0 left_1 = some r) : FL Try.prog cfg 100 [.im 2 true [.sc (.string a_0.Name), .sc (.int .i64 a_0.Work), .sc (.int .i64 a_0.Dry), .sc (.int .i64 a_0.Wait)], .im 2 false [.sc (.int .i64 left_1)]] = some ([(false, [.im 0 (.sc (.int .i64 r))])], []) := by
  unfold laws_szCoat at h
  refine FL_goS (A := [(0, .v true [.im 2 (.sc (.string a_0.Name)), .im 2 (.sc (.int .i64 a_0.Work)), .im 2 (.sc (.int .i64 a_0.Dry)), .im 2 (.sc (.int .i64 a_0.Wait))]), (1, .v false [.im 2 (.sc (.int .i64 left_1))])]) (B := [(0, none), (1, none)]) (nt := 13) rfl rfl Try.func100 rfl rfl rfl rfl ?_
  refine Go.seq ?_
  refine Go.r0 c100 rfl rfl (sq z100 (oBx rfl tF143 rfl (tkI (tkI (tkI (tkI tk0))))) <| sq z100 (oAsI rfl rfl) <| nl) ?_
  refine Unw.seq ?_
  refine Go.seq ?_
  refine Go.r0 c100 rfl rfl (sq z100 (oMv rfl rfl) <| sq z100 (oFA (r' := .mp 2 0 0) rfl fF143_0 rfl rfl) <| sq z100 (oLd (cs := [.im 0 _]) rfl tF9 rfl rfl) <| sq z100 (oLnS rfl rfl uF9 rfl) <| sq z100 (oBi rfl rfl rfl rfl) <| sq z100 (oAsI rfl rfl) <| nl) ?_
  refine Unw.seq ?_
  refine Go.seq ?_
  refine Go.seq ?_
  refine Go.r0 c100 rfl rfl (sq z100 (oMv rfl rfl) <| sq z100 (oBi rfl rfl rfl rfl) <| nl) ?_
  refine Unw.seq ?_
  by_cases hc1 : (w64 (left_1 - (a_0.Name.size : Int))) < 0
  · rw [if_pos hc1] at h
    refine Go.condT rfl (iDec.2 hc1) ?_
    refine Go.seq ?_
    refine Go.r0 c100 rfl rfl (sq z100 (oAsI rfl rfl) <| nl) ?_
    refine Unw.seq ?_
    refine Go.ret (Unw.ret ?_)
    cases h
    exact Fin_ret (fin_of rfl rF100 rfl (by kernel_rfl))
  · rw [if_neg hc1] at h
    refine Go.condF rfl (byF iDec hc1) ?_
    refine Go.skip ?_
    refine Unw.seq ?_
    refine Go.seq ?_
    refine Go.r0 c100 rfl rfl (sq z100 (oMv rfl rfl) <| sq z100 (oAsI rfl rfl) <| nl) ?_
    refine Unw.seq ?_
    refine Go.ret (Unw.ret ?_)
    cases h
    exact Fin_ret (fin_of rfl rF100 rfl (by kernel_rfl))
theorem L_laws_szCoatS {a_0 : (List S_Coat)} {left_1 : Int} {r : Int} (h : laws_szCoatS a_0 left_1 = some r) : FL Try.prog cfg 24 [.im 2 false [.row 4 (List.map e_S_Coat a_0)], .im 2 false [.sc (.int .i64 left_1)]] = some ([(false, [.im 0 (.sc (.int .i64 r))])], []) := by
  unfold laws_szCoatS at h
  refine FL_goS (A := [(0, .v false [.im 2 (.row 4 (List.map e_S_Coat a_0))]), (1, .v false [.im 2 (.sc (.int .i64 left_1))])]) (B := [(0, none), (1, none)]) (nt := 27) rfl rfl Try.func24 rfl rfl rfl rfl ?_
  refine Go.seq ?_
  refine Go.r0 c24 rfl rfl (sq z24 (oAsI rfl rfl) <| nl) ?_
  refine Unw.seq ?_
  refine Go.seq ?_
  refine Go.r0 c24 rfl rfl (sq z24 (oMv rfl rfl) <| sq z24 (oMv rfl rfl) <| sq z24 (oLnI rfl rfl uF40 rfl) <| sq z24 (oBi rfl rfl rfl rfl) <| sq z24 (oAsI rfl rfl) <| nl) ?_
  refine Unw.seq ?_
  refine Go.seq ?_
  refine Go.seq ?_
  refine Go.r0 c24 rfl rfl (sq z24 (oMv rfl rfl) <| sq z24 (oBi rfl rfl rfl rfl) <| nl) ?_
  refine Unw.seq ?_
  by_cases hc1 : (w64 (left_1 - (a_0.length : Int))) < 0
  · rw [if_pos hc1] at h
    refine Go.condT rfl (iDec.2 hc1) ?_
    refine Go.seq ?_
    refine Go.r0 c24 rfl rfl (sq z24 (oAsI rfl rfl) <| nl) ?_
    refine Unw.seq ?_
    refine Go.ret (Unw.ret ?_)
    cases h
    exact Fin_ret (fin_of rfl rF24 rfl (by kernel_rfl))
  · rw [if_neg hc1] at h
    refine Go.condF rfl (byF iDec hc1) ?_
    refine Go.skip ?_
    refine Unw.seq ?_
    refine Go.seq ?_
    refine Go.seq ?_
    refine Go.r0 c24 rfl rfl (sq z24 (oAsI rfl rfl) <| nl) ?_
    refine Unw.seq ?_
    refine Go.block ?_
    obtain ⟨o, hl, h⟩ := bs h
    refine Go.lp c24 rfl _ (fun (s : (Int × Int)) => match s with | (left_1_l5, i_5_l5) => mk [(0, .v false [.im 2 (.row 4 (List.map e_S_Coat a_0))]), (1, iv left_1_l5), (5, iv i_5_l5)] []) (fun (o : (Int ⊕ Int)) (p : Ex × St) => match o with | (.inl left_1_e0_5) => p.1 = .exit 0 ∧ p.2.norm ([1], []) = mk [(1, iv left_1_e0_5)] [] | (.inr r2) => p.1 = .ret ∧ fin Try.prog cfg 24 Try.f24 [.im 2 false [.row 4 (List.map e_S_Coat a_0)], .im 2 false [.sc (.int .i64 left_1)]] p.2 = some ([(false, [.im 0 (.sc (.int .i64 r2))])], [])) hl (by kernel_rfl) ?_ ?_ ?_
    · intro o p hp e
      rcases o with left_1_e0_5 | r2 <;> exact nomatch (hp.1.symm.trans e)
    · rintro ⟨left_1_l5, i_5_l5⟩ o h
      unfold laws_szCoatS_l5 at h
      dsimp only at h
      refine Go.seq ?_
      refine Go.seq ?_
      refine Go.r0 c24 rfl rfl (sq z24 (oMv rfl rfl) <| sq z24 (oMv rfl rfl) <| sq z24 (oLnI rfl rfl uF40 rfl) <| sq z24 (oBi rfl rfl rfl rfl) <| nl) ?_
      refine Unw.seq ?_
      by_cases hc6 : i_5_l5 < (a_0.length : Int)
      · rw [if_pos hc6] at h
        refine Go.condT rfl (iDec.2 hc6) ?_
        refine Go.skip ?_
        refine Unw.seq ?_
        refine Go.seq ?_
        refine Go.block ?_
        refine Go.seq ?_
        obtain ⟨x20, hx20, h⟩ := bs h
        obtain ⟨x23, hx23, h⟩ := bs h
        refine Go.r0 c24 rfl rfl (sq z24 (oMv rfl rfl) <| sq z24 (oMv rfl rfl) <| sq z24 (oIAI rfl hx20 sF40 rfl rfl) <| sq z24 (oLd (cs := [.im 2 _, .im 2 _, .im 2 _, .im 2 _]) rfl tF143 rfl rfl) <| sq z24 (oMv rfl rfl) <| sq z24 (oCa (xs := [.v true [.im 2 _, .im 2 _, .im 2 _, .im 2 _], .v false [.im 0 _]]) (vs := [(false, [.im 0 _])]) (v := .v false [.im 0 _]) (L_laws_szCoat hx23) (.inl rfl) rfl kF100_143_3 rfl (ppC rfl (ppC rfl pp0)) rfl rfl pb0 rfl rfl rfl) <| sq z24 (oAsI rfl rfl) <| nl) ?_
        refine Unw.seq ?_
        refine Go.seq ?_
        refine Go.r0 c24 rfl rfl (sq z24 (oMv rfl rfl) <| sq z24 (oBi rfl rfl rfl rfl) <| nl) ?_
        refine Unw.seq ?_
        by_cases hc7 : x23 < 0
        · rw [if_pos hc7] at h
          refine Go.condT rfl (iDec.2 hc7) ?_
          refine Go.seq ?_
          refine Go.r0 c24 rfl rfl (sq z24 (oAsI rfl rfl) <| nl) ?_
          refine Unw.seq ?_
          refine Go.ret (Unw.ret ?_)
          cases h
          exact ⟨rfl, (fin_of rfl rF24 rfl (by kernel_rfl))⟩
        · rw [if_neg hc7] at h
          refine Go.condF rfl (byF iDec hc7) ?_
          refine Go.skip ?_
          refine Unw.blk ?_
          refine Unw.seq ?_
          refine Go.r0 c24 rfl rfl (sq z24 (oMv rfl rfl) <| sq z24 (oBi rfl rfl rfl rfl) <| sq z24 (oAsI rfl rfl) <| nl) ?_
          refine Unw.nil ?_
          cases h
          exact ⟨rfl, (by kernel_rfl)⟩
      · rw [if_neg hc6] at h
        refine Go.condF rfl (byF iDec hc6) ?_
        refine Go.exit ?_
        refine Unw.seqx ?_
        refine Unw.nil ?_
        cases h
        exact ⟨rfl, (by kernel_rfl)⟩
    · rintro ⟨e, st⟩ hp
      rcases o with left_1_e0_5 | r2
      · dsimp only at h
        obtain ⟨he, hst⟩ := hp
        obtain rfl : e = .exit 0 := he
        refine Unw.blkx ?_
        refine Unw.seq ?_
        refine Go.seq ?_
        refine Go.r1 c24 rfl rfl hst (sq z24 (oMv rfl rfl) <| sq z24 (oAsI rfl rfl) <| nl) ?_
        refine Unw.seq ?_
        refine Go.ret (Unw.ret ?_)
        cases h
        exact Fin_ret (fin_of rfl rF24 rfl (by kernel_rfl))
      · dsimp only at h
        obtain ⟨he, hfin⟩ := hp
        obtain rfl : e = .ret := he
        cases h
        exact Unw.ret (Fin_ret hfin)
theorem L_laws_toCoat {a_0 : S_Coat} {r : S_Coat} (h : laws_toCoat a_0 = some r) : FL Try.prog cfg 106 [.im 2 true [.sc (.string a_0.Name), .sc (.int .i64 a_0.Work), .sc (.int .i64 a_0.Dry), .sc (.int .i64 a_0.Wait)]] = some ([(true, [.im 0 (.sc (.string r.Name)), .im 0 (.sc (.int .i64 r.Work)), .im 0 (.sc (.int .i64 r.Dry)), .im 0 (.sc (.int .i64 r.Wait))])], []) := by
  unfold laws_toCoat at h
  refine FL_goS (A := [(0, .v true [.im 2 (.sc (.string a_0.Name)), .im 2 (.sc (.int .i64 a_0.Work)), .im 2 (.sc (.int .i64 a_0.Dry)), .im 2 (.sc (.int .i64 a_0.Wait))])]) (B := [(0, none)]) (nt := 17) rfl rfl Try.func106 rfl rfl rfl rfl ?_
  refine Go.seq ?_
  refine Go.r0 c106 rfl rfl (sq z106 (oBx rfl tF143 rfl (tkI (tkI (tkI (tkI tk0))))) <| sq z106 (oAl rfl tF128 (tkI (tkI (tkI (tkI tk0))))) <| nl) ?_
  refine Unw.seq ?_
  refine Go.seq ?_
  refine Go.r0 c106 rfl rfl (sq z106 (oAl rfl tF128 (tkI (tkI (tkI (tkI tk0))))) <| nl) ?_
  refine Unw.seq ?_
  refine Go.seq ?_
  refine Go.r0 c106 rfl rfl (sq z106 (oFA (r' := .mp 1 0 0) rfl fF143_0 rfl rfl) <| sq z106 (oLd (cs := [.im 0 _]) rfl tF9 rfl rfl) <| sq z106 (oFA (r' := .mp 3 0 0) rfl fF128_0 rfl rfl) <| sq z106 (oSt tF9 rfl rfl rfl (tkI tk0) rfl rfl rfl) <| nl) ?_
  refine Unw.seq ?_
  refine Go.seq ?_
  refine Go.r1 c106 rfl rfl (st1 := mk [(1, .v false [.mp 1 0 0]), (2, .v false [.mp 2 0 0]), (3, .v false [.mp 3 0 0])] [(1, some ⟨0, 0, false, true, false, true, [⟨.imm, 0, 0, .sc (.string a_0.Name)⟩, ⟨.imm, 0, 0, .sc (.int .i64 a_0.Work)⟩, ⟨.imm, 0, 0, .sc (.int .i64 a_0.Dry)⟩, ⟨.imm, 0, 0, .sc (.int .i64 a_0.Wait)⟩]⟩), (2, some ⟨0, 0, false, true, false, true, [⟨.imm, 0, 0, .sc (.string (⟨#[]⟩ : ByteArray))⟩, ⟨.imm, 0, 0, .sc (.int .i64 0)⟩, ⟨.imm, 0, 0, .sc (.int .i64 0)⟩, ⟨.imm, 0, 0, .sc (.int .i64 0)⟩]⟩), (3, some ⟨0, 0, false, true, false, true, [⟨.imm, 0, 0, .sc (.string a_0.Name)⟩, ⟨.imm, 0, 0, .sc (.int .i64 0)⟩, ⟨.imm, 0, 0, .sc (.int .i64 0)⟩, ⟨.imm, 0, 0, .sc (.int .i64 0)⟩]⟩)]) (by kernel_rfl) (sq z106 (oFA (r' := .mp 1 0 1) rfl fF143_1 rfl rfl) <| sq z106 (oLd (cs := [.im 0 _]) rfl tF2 rfl rfl) <| sq z106 (oFA (r' := .mp 3 0 1) rfl fF128_1 rfl rfl) <| sq z106 (oSt tF2 rfl rfl rfl (tkI tk0) rfl rfl rfl) <| nl) ?_
  refine Unw.seq ?_
  refine Go.seq ?_
  refine Go.r1 c106 rfl rfl (st1 := mk [(1, .v false [.mp 1 0 0]), (2, .v false [.mp 2 0 0]), (3, .v false [.mp 3 0 0])] [(1, some ⟨0, 0, false, true, false, true, [⟨.imm, 0, 0, .sc (.string a_0.Name)⟩, ⟨.imm, 0, 0, .sc (.int .i64 a_0.Work)⟩, ⟨.imm, 0, 0, .sc (.int .i64 a_0.Dry)⟩, ⟨.imm, 0, 0, .sc (.int .i64 a_0.Wait)⟩]⟩), (2, some ⟨0, 0, false, true, false, true, [⟨.imm, 0, 0, .sc (.string (⟨#[]⟩ : ByteArray))⟩, ⟨.imm, 0, 0, .sc (.int .i64 0)⟩, ⟨.imm, 0, 0, .sc (.int .i64 0)⟩, ⟨.imm, 0, 0, .sc (.int .i64 0)⟩]⟩), (3, some ⟨0, 0, false, true, false, true, [⟨.imm, 0, 0, .sc (.string a_0.Name)⟩, ⟨.imm, 0, 0, .sc (.int .i64 a_0.Work)⟩, ⟨.imm, 0, 0, .sc (.int .i64 0)⟩, ⟨.imm, 0, 0, .sc (.int .i64 0)⟩]⟩)]) (by kernel_rfl) (sq z106 (oFA (r' := .mp 1 0 2) rfl fF143_2 rfl rfl) <| sq z106 (oLd (cs := [.im 0 _]) rfl tF2 rfl rfl) <| sq z106 (oFA (r' := .mp 3 0 2) rfl fF128_2 rfl rfl) <| sq z106 (oSt tF2 rfl rfl rfl (tkI tk0) rfl rfl rfl) <| nl) ?_
  refine Unw.seq ?_
  refine Go.seq ?_
  refine Go.r1 c106 rfl rfl (st1 := mk [(1, .v false [.mp 1 0 0]), (2, .v false [.mp 2 0 0]), (3, .v false [.mp 3 0 0])] [(1, some ⟨0, 0, false, true, false, true, [⟨.imm, 0, 0, .sc (.string a_0.Name)⟩, ⟨.imm, 0, 0, .sc (.int .i64 a_0.Work)⟩, ⟨.imm, 0, 0, .sc (.int .i64 a_0.Dry)⟩, ⟨.imm, 0, 0, .sc (.int .i64 a_0.Wait)⟩]⟩), (2, some ⟨0, 0, false, true, false, true, [⟨.imm, 0, 0, .sc (.string (⟨#[]⟩ : ByteArray))⟩, ⟨.imm, 0, 0, .sc (.int .i64 0)⟩, ⟨.imm, 0, 0, .sc (.int .i64 0)⟩, ⟨.imm, 0, 0, .sc (.int .i64 0)⟩]⟩), (3, some ⟨0, 0, false, true, false, true, [⟨.imm, 0, 0, .sc (.string a_0.Name)⟩, ⟨.imm, 0, 0, .sc (.int .i64 a_0.Work)⟩, ⟨.imm, 0, 0, .sc (.int .i64 a_0.Dry)⟩, ⟨.imm, 0, 0, .sc (.int .i64 0)⟩]⟩)]) (by kernel_rfl) (sq z106 (oFA (r' := .mp 1 0 3) rfl fF143_3 rfl rfl) <| sq z106 (oLd (cs := [.im 0 _]) rfl tF2 rfl rfl) <| sq z106 (oFA (r' := .mp 3 0 3) rfl fF128_3 rfl rfl) <| sq z106 (oSt tF2 rfl rfl rfl (tkI tk0) rfl rfl rfl) <| nl) ?_
  refine Unw.seq ?_
  refine Go.seq ?_
  refine Go.r1 c106 rfl rfl (st1 := mk [(2, .v false [.mp 2 0 0]), (3, .v false [.mp 3 0 0])] [(2, some ⟨0, 0, false, true, false, true, [⟨.imm, 0, 0, .sc (.string (⟨#[]⟩ : ByteArray))⟩, ⟨.imm, 0, 0, .sc (.int .i64 0)⟩, ⟨.imm, 0, 0, .sc (.int .i64 0)⟩, ⟨.imm, 0, 0, .sc (.int .i64 0)⟩]⟩), (3, some ⟨0, 0, false, true, false, true, [⟨.imm, 0, 0, .sc (.string a_0.Name)⟩, ⟨.imm, 0, 0, .sc (.int .i64 a_0.Work)⟩, ⟨.imm, 0, 0, .sc (.int .i64 a_0.Dry)⟩, ⟨.imm, 0, 0, .sc (.int .i64 a_0.Wait)⟩]⟩)]) (by kernel_rfl) (sq z106 (oLd (cs := [.im 0 _, .im 0 _, .im 0 _, .im 0 _]) rfl tF128 rfl rfl) <| sq z106 (oSt tF128 rfl rfl rfl (tkI (tkI (tkI (tkI tk0)))) rfl rfl rfl) <| nl) ?_
  refine Unw.seq ?_
  refine Go.ret (Unw.ret ?_)
  cases h
  exact Fin_ret (fin_of rfl rF106 rfl (by kernel_rfl))
theorem L_laws_toCoatS {a_0 : (List S_Coat)} {r : (List S_Coat)} (h : laws_toCoatS a_0 = some r) : FL Try.prog cfg 26 [.im 2 false [.row 4 (List.map e_S_Coat a_0)]] = some ([(false, [.ow 0 4 (List.map e_S_Coat r)])], []) := by
  unfold laws_toCoatS at h
  refine FL_goS (A := [(0, .v false [.im 2 (.row 4 (List.map e_S_Coat a_0))])]) (B := [(0, none)]) (nt := 23) rfl rfl Try.func26 rfl rfl rfl rfl ?_
  refine Go.seq ?_
  refine Go.r0 c26 rfl rfl (sq z26 (oAsN rfl rfl eF24) <| nl) ?_
  refine Unw.seq ?_
  refine Go.seq ?_
  obtain ⟨x7, hx7, h⟩ := bs h
  refine Go.r0 c26 rfl rfl (sq z26 (oMv rfl rfl) <| sq z26 (oLnI rfl rfl uF40 rfl) <| sq z26 (oMk (en := e_S_Coat) rfl hx7 rfl sF24 rfl rfl (fxI (fxI (fxI (fxI fx0)))) rfl (flat0 (L := [_]) rfl fun _ => rfl)) <| sq z26 (oAsO rfl rfl rfl rfl rfl) <| nl) ?_
  refine Unw.seq ?_
  refine Go.seq ?_
  refine Go.seq ?_
  refine Go.r0 c26 rfl rfl (sq z26 (oAsI rfl rfl) <| nl) ?_
  refine Unw.seq ?_
  refine Go.block ?_
  obtain ⟨o, hl, h⟩ := bs h
  refine Go.lp c26 rfl _ (fun (s : (Int × (List S_Coat))) => match s with | (i_4_l3, out_o3_l3) => mk [(0, .v false [.im 2 (.row 4 (List.map e_S_Coat a_0))]), (3, .v false [.own 3 0 0]), (4, iv i_4_l3)] [(3, some ⟨0, 0, false, false, false, false, [⟨.sh, 0, 0, .row 4 (List.map e_S_Coat out_o3_l3)⟩]⟩)]) (fun (out_o3_e0_3 : (List S_Coat)) (p : Ex × St) => p.1 = .exit 0 ∧ p.2.norm ([3], [3]) = mk [(3, .v false [.own 3 0 0])] [(3, some ⟨0, 0, false, false, false, false, [⟨.sh, 0, 0, .row 4 (List.map e_S_Coat out_o3_e0_3)⟩]⟩)]) hl (by kernel_rfl) ?_ ?_ ?_
  · intro o p hp e
    exact nomatch (hp.1.symm.trans e)
  · rintro ⟨i_4_l3, out_o3_l3⟩ o h
    unfold laws_toCoatS_l3 at h
    dsimp only at h
    refine Go.seq ?_
    refine Go.seq ?_
    refine Go.r0 c26 rfl rfl (sq z26 (oMv rfl rfl) <| sq z26 (oMv rfl rfl) <| sq z26 (oLnI rfl rfl uF40 rfl) <| sq z26 (oBi rfl rfl rfl rfl) <| nl) ?_
    refine Unw.seq ?_
    by_cases hc3 : i_4_l3 < (a_0.length : Int)
    · rw [if_pos hc3] at h
      refine Go.condT rfl (iDec.2 hc3) ?_
      refine Go.skip ?_
      refine Unw.seq ?_
      refine Go.seq ?_
      refine Go.block ?_
      obtain ⟨x18, hx18, h⟩ := bs h
      obtain ⟨x20, hx20, h⟩ := bs h
      obtain ⟨x21, hx21, h⟩ := bs h
      refine Go.r0 c26 rfl rfl (sq z26 (oMv rfl rfl) <| sq z26 (oMv rfl rfl) <| sq z26 (oMv rfl rfl) <| sq z26 (oMv rfl rfl) <| sq z26 (oIAI rfl hx18 sF40 rfl rfl) <| sq z26 (oLd (cs := [.im 2 _, .im 2 _, .im 2 _, .im 2 _]) rfl tF143 rfl rfl) <| sq z26 (oCa (xs := [.v true [.im 2 _, .im 2 _, .im 2 _, .im 2 _]]) (vs := [(true, [.im 0 _, .im 0 _, .im 0 _, .im 0 _])]) (v := .v true [.im 0 _, .im 0 _, .im 0 _, .im 0 _]) (L_laws_toCoat hx20) (.inl rfl) rfl kF106_143 rfl (ppC rfl pp0) rfl rfl pb0 rfl rfl rfl) <| sq z26 (oIAO rfl hx21 sF24 rfl rfl rfl rfl) <| sq z26 (oStE (v' := x20) tF128 rfl rfl rfl (fxI (fxI (fxI (fxI fx0)))) rfl rfl (rd_get hx21) rfl) <| nl) ?_
      refine Unw.blk ?_
      refine Unw.seq ?_
      refine Go.r1 c26 rfl rfl (st1 := mk [(0, .v false [.im 2 (.row 4 (List.map e_S_Coat a_0))]), (3, .v false [.own 3 0 0]), (4, iv i_4_l3)] [(3, some ⟨0, 0, false, false, false, false, [⟨.sh, 0, 0, .row 4 (List.map e_S_Coat (out_o3_l3.set i_4_l3.toNat x20))⟩]⟩)]) (by kernel_rfl) (sq z26 (oMv rfl rfl) <| sq z26 (oBi rfl rfl rfl rfl) <| sq z26 (oAsI rfl rfl) <| nl) ?_
      refine Unw.nil ?_
      cases h
      exact ⟨rfl, (by kernel_rfl)⟩
    · rw [if_neg hc3] at h
      refine Go.condF rfl (byF iDec hc3) ?_
      refine Go.exit ?_
      refine Unw.seqx ?_
      refine Unw.nil ?_
      cases h
      exact ⟨rfl, (by kernel_rfl)⟩
  · rintro ⟨e, st⟩ hp
    obtain ⟨out_o3_e0_3, rfl⟩ : ∃ y, y = o := ⟨o, rfl⟩
    obtain ⟨he, hst⟩ := hp
    obtain rfl : e = .exit 0 := he
    refine Unw.blkx ?_
    refine Unw.seq ?_
    refine Go.seq ?_
    refine Go.r1 c26 rfl rfl hst (sq z26 (oMv rfl rfl) <| sq z26 (oAsO rfl rfl rfl rfl rfl) <| nl) ?_
    refine Unw.seq ?_
    refine Go.ret (Unw.ret ?_)
    cases h
    exact Fin_ret (fin_of rfl rF26 rfl (by kernel_rfl))
theorem L_spec_l01Small {c_0 : Int} {r : Bool} (h : spec_l01Small c_0 = some r) : FL Try.prog cfg 276 [.im 2 false [.sc (.int .u8 c_0)]] = some ([(false, [.im 0 (.sc (.bool r))])], []) := by
  unfold spec_l01Small at h
  refine FL_goS (A := [(0, .v false [.im 2 (.sc (.int .u8 c_0))])]) (B := [(0, none)]) (nt := 9) rfl rfl Try.func276 rfl rfl rfl rfl ?_
  refine Go.seq ?_
  refine Go.r0 c276 rfl rfl (sq z276 (oAsI rfl rfl) <| nl) ?_
  refine Unw.seq ?_
  refine Go.seq ?_
  refine Go.rX c276 rfl rfl rfl (mk [(2, bv ((decide (c_0 ≥ 97)) && (decide (c_0 ≤ 122))))] []) ?_ ?_
  · by_cases hc1 : c_0 ≥ 97
    · exact ⟨_, sq z276 (oMv rfl rfl) <| sq z276 (oBi rfl rfl rfl rfl) <| sq z276 (oMv rfl rfl) <| sgT z276 rfl rfl (iDec.2 hc1) (oMv rfl rfl) <| sgT z276 rfl rfl (iDec.2 hc1) (oBi rfl rfl rfl rfl) <| sq z276 (oPkT rfl rfl (iDec.2 hc1) rfl) <| sq z276 (oAsI rfl rfl) <| nl, (Eq.trans (b := (fun t_2_m1 : Bool => mk [(2, bv t_2_m1)] []) (decide (c_0 ≤ 122))) (by kernel_rfl) (congrArg (fun t_2_m1 : Bool => mk [(2, bv t_2_m1)] []) (by first | rfl | simp [(iDec.2 hc1)])))⟩
    · exact ⟨_, sq z276 (oMv rfl rfl) <| sq z276 (oBi rfl rfl rfl rfl) <| sq z276 (oMv rfl rfl) <| sgF rfl rfl (byF iDec hc1) rfl <| sgF rfl rfl (byF iDec hc1) rfl <| sq z276 (oPkF rfl rfl (byF iDec hc1) rfl) <| sq z276 (oAsI rfl rfl) <| nl, (Eq.trans (b := (fun t_2_m1 : Bool => mk [(2, bv t_2_m1)] []) false) (by kernel_rfl) (congrArg (fun t_2_m1 : Bool => mk [(2, bv t_2_m1)] []) (by first | rfl | simp [(byF iDec hc1)])))⟩
  · refine Unw.seq ?_
    refine Go.ret (Unw.ret ?_)
    cases h
    exact Fin_ret (fin_of rfl rF276 rfl (by kernel_rfl))
theorem L_spec_l01Digit {c_0 : Int} {r : Bool} (h : spec_l01Digit c_0 = some r) : FL Try.prog cfg 277 [.im 2 false [.sc (.int .u8 c_0)]] = some ([(false, [.im 0 (.sc (.bool r))])], []) := by
  unfold spec_l01Digit at h
  refine FL_goS (A := [(0, .v false [.im 2 (.sc (.int .u8 c_0))])]) (B := [(0, none)]) (nt := 9) rfl rfl Try.func277 rfl rfl rfl rfl ?_
  refine Go.seq ?_
  refine Go.r0 c277 rfl rfl (sq z277 (oAsI rfl rfl) <| nl) ?_
  refine Unw.seq ?_
  refine Go.seq ?_
  refine Go.rX c277 rfl rfl rfl (mk [(2, bv ((decide (c_0 ≥ 48)) && (decide (c_0 ≤ 57))))] []) ?_ ?_
  · by_cases hc1 : c_0 ≥ 48
    · exact ⟨_, sq z277 (oMv rfl rfl) <| sq z277 (oBi rfl rfl rfl rfl) <| sq z277 (oMv rfl rfl) <| sgT z277 rfl rfl (iDec.2 hc1) (oMv rfl rfl) <| sgT z277 rfl rfl (iDec.2 hc1) (oBi rfl rfl rfl rfl) <| sq z277 (oPkT rfl rfl (iDec.2 hc1) rfl) <| sq z277 (oAsI rfl rfl) <| nl, (Eq.trans (b := (fun t_2_m1 : Bool => mk [(2, bv t_2_m1)] []) (decide (c_0 ≤ 57))) (by kernel_rfl) (congrArg (fun t_2_m1 : Bool => mk [(2, bv t_2_m1)] []) (by first | rfl | simp [(iDec.2 hc1)])))⟩
    · exact ⟨_, sq z277 (oMv rfl rfl) <| sq z277 (oBi rfl rfl rfl rfl) <| sq z277 (oMv rfl rfl) <| sgF rfl rfl (byF iDec hc1) rfl <| sgF rfl rfl (byF iDec hc1) rfl <| sq z277 (oPkF rfl rfl (byF iDec hc1) rfl) <| sq z277 (oAsI rfl rfl) <| nl, (Eq.trans (b := (fun t_2_m1 : Bool => mk [(2, bv t_2_m1)] []) false) (by kernel_rfl) (congrArg (fun t_2_m1 : Bool => mk [(2, bv t_2_m1)] []) (by first | rfl | simp [(byF iDec hc1)])))⟩
  · refine Unw.seq ?_
    refine Go.ret (Unw.ret ?_)
    cases h
    exact Fin_ret (fin_of rfl rF277 rfl (by kernel_rfl))
theorem L_spec_l01Name {s_0 : ByteArray} {r : Bool} (h : spec_l01Name s_0 = some r) : FL Try.prog cfg 252 [.im 2 false [.sc (.string s_0)]] = some ([(false, [.im 0 (.sc (.bool r))])], []) := by
  unfold spec_l01Name at h
  refine FL_goS (A := [(0, .v false [.im 2 (.sc (.string s_0))])]) (B := [(0, none)]) (nt := 35) rfl rfl Try.func252 rfl rfl rfl rfl ?_
  refine Go.seq ?_
  refine Go.r0 c252 rfl rfl (sq z252 (oAsI rfl rfl) <| nl) ?_
  refine Unw.seq ?_
  refine Go.seq ?_
  refine Go.seq ?_
  obtain ⟨t_16_m1, hm16, h⟩ := bs h
  refine Go.rX c252 rfl rfl rfl (mk [(0, sv s_0), (16, bv t_16_m1)] []) ?_ ?_
  · by_cases hc1 : s_0 = (⟨#[]⟩ : ByteArray)
    · rw [if_pos hc1] at hm16
      cases hm16
      exact ⟨_, sq z252 (oMv rfl rfl) <| sq z252 (oBi rfl rfl rfl rfl) <| sq z252 (oMv rfl rfl) <| sgF rfl rfl (iStr.2 hc1) rfl <| sgF rfl rfl (iStr.2 hc1) rfl <| sgF rfl rfl (iStr.2 hc1) rfl <| sq z252 (oPkT rfl rfl (iStr.2 hc1) rfl) <| sq z252 (oMv rfl rfl) <| sgF rfl rfl rfl rfl <| sgF rfl rfl rfl rfl <| sgF rfl rfl rfl rfl <| sgF rfl rfl rfl rfl <| sq z252 (oPkT rfl rfl rfl rfl) <| nl, (by kernel_rfl)⟩
    · rw [if_neg hc1] at hm16
      by_cases hc2 : (s_0.size : Int) > 10
      · rw [if_pos hc2] at hm16
        cases hm16
        exact ⟨_, sq z252 (oMv rfl rfl) <| sq z252 (oBi rfl rfl rfl rfl) <| sq z252 (oMv rfl rfl) <| sgT z252 rfl rfl (byF iStr hc1) (oMv rfl rfl) <| sgT z252 rfl rfl (byF iStr hc1) (oLnS rfl rfl uF9 rfl) <| sgT z252 rfl rfl (byF iStr hc1) (oBi rfl rfl rfl rfl) <| sq z252 (oPkF rfl rfl (byF iStr hc1) rfl) <| sq z252 (oMv rfl rfl) <| sgF rfl rfl (iDec.2 hc2) rfl <| sgF rfl rfl (iDec.2 hc2) rfl <| sgF rfl rfl (iDec.2 hc2) rfl <| sgF rfl rfl (iDec.2 hc2) rfl <| sq z252 (oPkT rfl rfl (iDec.2 hc2) rfl) <| nl, (by kernel_rfl)⟩
      · rw [if_neg hc2] at hm16
        obtain ⟨x13, hx13, hm16⟩ := bs hm16
        obtain ⟨x14, hx14, hm16⟩ := bs hm16
        cases hm16
        exact ⟨_, sq z252 (oMv rfl rfl) <| sq z252 (oBi rfl rfl rfl rfl) <| sq z252 (oMv rfl rfl) <| sgT z252 rfl rfl (byF iStr hc1) (oMv rfl rfl) <| sgT z252 rfl rfl (byF iStr hc1) (oLnS rfl rfl uF9 rfl) <| sgT z252 rfl rfl (byF iStr hc1) (oBi rfl rfl rfl rfl) <| sq z252 (oPkF rfl rfl (byF iStr hc1) rfl) <| sq z252 (oMv rfl rfl) <| sgT z252 rfl rfl (byF iDec hc2) (oMv rfl rfl) <| sgT z252 rfl rfl (byF iDec hc2) (oIx rfl hx13 uF9 rfl rfl) <| sgT z252 rfl rfl (byF iDec hc2) (oCa (xs := [.v false [.im 0 _]]) (vs := [(false, [.im 0 _])]) (v := .v false [.im 0 _]) (L_spec_l01Small hx14) (.inl rfl) rfl kF276_5 rfl (ppC rfl pp0) rfl rfl pb0 rfl rfl rfl) <| sgT z252 rfl rfl (byF iDec hc2) (oUn rfl rfl rfl) <| sq z252 (oPkF rfl rfl (byF iDec hc2) rfl) <| nl, (by kernel_rfl)⟩
  · refine Unw.seq ?_
    by_cases hc3 : t_16_m1 = true
    · rw [if_pos hc3] at h
      refine Go.condT rfl (Iff.rfl.2 hc3) ?_
      refine Go.seq ?_
      refine Go.r0 c252 rfl rfl (sq z252 (oAsI rfl rfl) <| nl) ?_
      refine Unw.seq ?_
      refine Go.ret (Unw.ret ?_)
      cases h
      exact Fin_ret (fin_of rfl rF252 rfl (by kernel_rfl))
    · rw [if_neg hc3] at h
      refine Go.condF rfl (byF Iff.rfl hc3) ?_
      refine Go.skip ?_
      refine Unw.seq ?_
      refine Go.seq ?_
      refine Go.seq ?_
      refine Go.r0 c252 rfl rfl (sq z252 (oAsI rfl rfl) <| nl) ?_
      refine Unw.seq ?_
      refine Go.block ?_
      obtain ⟨o, hl, h⟩ := bs h
      refine Go.lp c252 rfl _ (fun (i_3_l4 : Int) => mk [(0, sv s_0), (3, iv i_3_l4)] []) (fun (o : (Unit ⊕ Bool)) (p : Ex × St) => match o with | (.inl _) => p.1 = .exit 0 ∧ p.2.norm ([], []) = mk [] [] | (.inr r2) => p.1 = .ret ∧ fin Try.prog cfg 252 Try.f252 [.im 2 false [.sc (.string s_0)]] p.2 = some ([(false, [.im 0 (.sc (.bool r2))])], [])) hl (by kernel_rfl) ?_ ?_ ?_
      · intro o p hp e
        rcases o with u | r2 <;> exact nomatch (hp.1.symm.trans e)
      · rintro i_3_l4 o h
        unfold spec_l01Name_l4 at h
        refine Go.seq ?_
        refine Go.seq ?_
        refine Go.r0 c252 rfl rfl (sq z252 (oMv rfl rfl) <| sq z252 (oMv rfl rfl) <| sq z252 (oLnS rfl rfl uF9 rfl) <| sq z252 (oBi rfl rfl rfl rfl) <| nl) ?_
        refine Unw.seq ?_
        by_cases hc12 : i_3_l4 < (s_0.size : Int)
        · rw [if_pos hc12] at h
          refine Go.condT rfl (iDec.2 hc12) ?_
          refine Go.skip ?_
          refine Unw.seq ?_
          refine Go.seq ?_
          refine Go.block ?_
          refine Go.seq ?_
          obtain ⟨x25, hx25, h⟩ := bs h
          obtain ⟨x26, hx26, h⟩ := bs h
          obtain ⟨t_34_m6, hm15, h⟩ := bs h
          refine Go.rX c252 rfl rfl rfl (mk [(0, sv s_0), (3, iv i_3_l4), (34, bv t_34_m6)] []) ?_ ?_
          · by_cases hc13 : x26 = true
            · rw [if_pos hc13] at hm15
              cases hm15
              exact ⟨_, sq z252 (oMv rfl rfl) <| sq z252 (oMv rfl rfl) <| sq z252 (oIx rfl hx25 uF9 rfl rfl) <| sq z252 (oCa (xs := [.v false [.im 0 _]]) (vs := [(false, [.im 0 _])]) (v := .v false [.im 0 _]) (L_spec_l01Small hx26) (.inl rfl) rfl kF276_5 rfl (ppC rfl pp0) rfl rfl pb0 rfl rfl rfl) <| sq z252 (oUn rfl rfl rfl) <| sq z252 (oMv rfl rfl) <| sgF rfl rfl (nF (Iff.rfl.2 hc13)) rfl <| sgF rfl rfl (nF (Iff.rfl.2 hc13)) rfl <| sgF rfl rfl (nF (Iff.rfl.2 hc13)) rfl <| sgF rfl rfl (nF (Iff.rfl.2 hc13)) rfl <| sgF rfl rfl (nF (Iff.rfl.2 hc13)) rfl <| sq z252 (oPkF rfl rfl (nF (Iff.rfl.2 hc13)) rfl) <| nl, (by kernel_rfl)⟩
            · rw [if_neg hc13] at hm15
              obtain ⟨x31, hx31, hm15⟩ := bs hm15
              obtain ⟨x32, hx32, hm15⟩ := bs hm15
              cases hm15
              exact ⟨_, sq z252 (oMv rfl rfl) <| sq z252 (oMv rfl rfl) <| sq z252 (oIx rfl hx25 uF9 rfl rfl) <| sq z252 (oCa (xs := [.v false [.im 0 _]]) (vs := [(false, [.im 0 _])]) (v := .v false [.im 0 _]) (L_spec_l01Small hx26) (.inl rfl) rfl kF276_5 rfl (ppC rfl pp0) rfl rfl pb0 rfl rfl rfl) <| sq z252 (oUn rfl rfl rfl) <| sq z252 (oMv rfl rfl) <| sgT z252 rfl rfl (nT (byF Iff.rfl hc13)) (oMv rfl rfl) <| sgT z252 rfl rfl (nT (byF Iff.rfl hc13)) (oMv rfl rfl) <| sgT z252 rfl rfl (nT (byF Iff.rfl hc13)) (oIx rfl hx31 uF9 rfl rfl) <| sgT z252 rfl rfl (nT (byF Iff.rfl hc13)) (oCa (xs := [.v false [.im 0 _]]) (vs := [(false, [.im 0 _])]) (v := .v false [.im 0 _]) (L_spec_l01Digit hx32) (.inl rfl) rfl kF277_5 rfl (ppC rfl pp0) rfl rfl pb0 rfl rfl rfl) <| sgT z252 rfl rfl (nT (byF Iff.rfl hc13)) (oUn rfl rfl rfl) <| sq z252 (oPkT rfl rfl (nT (byF Iff.rfl hc13)) rfl) <| nl, (by kernel_rfl)⟩
          · refine Unw.seq ?_
            by_cases hc14 : t_34_m6 = true
            · rw [if_pos hc14] at h
              refine Go.condT rfl (Iff.rfl.2 hc14) ?_
              refine Go.seq ?_
              refine Go.r0 c252 rfl rfl (sq z252 (oAsI rfl rfl) <| nl) ?_
              refine Unw.seq ?_
              refine Go.ret (Unw.ret ?_)
              cases h
              exact ⟨rfl, (fin_of rfl rF252 rfl (by kernel_rfl))⟩
            · rw [if_neg hc14] at h
              refine Go.condF rfl (byF Iff.rfl hc14) ?_
              refine Go.skip ?_
              refine Unw.blk ?_
              refine Unw.seq ?_
              refine Go.r0 c252 rfl rfl (sq z252 (oMv rfl rfl) <| sq z252 (oBi rfl rfl rfl rfl) <| sq z252 (oAsI rfl rfl) <| nl) ?_
              refine Unw.nil ?_
              cases h
              exact ⟨rfl, (by kernel_rfl)⟩
        · rw [if_neg hc12] at h
          refine Go.condF rfl (byF iDec hc12) ?_
          refine Go.exit ?_
          refine Unw.seqx ?_
          refine Unw.nil ?_
          cases h
          exact ⟨rfl, (by kernel_rfl)⟩
      · rintro ⟨e, st⟩ hp
        rcases o with u | r2
        · dsimp only at h
          obtain ⟨he, hst⟩ := hp
          obtain rfl : e = .exit 0 := he
          refine Unw.blkx ?_
          refine Unw.seq ?_
          refine Go.seq ?_
          refine Go.r1 c252 rfl rfl hst (sq z252 (oAsI rfl rfl) <| nl) ?_
          refine Unw.seq ?_
          refine Go.ret (Unw.ret ?_)
          cases h
          exact Fin_ret (fin_of rfl rF252 rfl (by kernel_rfl))
        · dsimp only at h
          obtain ⟨he, hfin⟩ := hp
          obtain rfl : e = .ret := he
          cases h
          exact Unw.ret (Fin_ret hfin)
theorem L_spec_l00In {n_0 : Int} {low_1 : Int} {high_2 : Int} {r : Bool} (h : spec_l00In n_0 low_1 high_2 = some r) : FL Try.prog cfg 102 [.im 2 false [.sc (.int .i64 n_0)], .im 2 false [.sc (.int .i64 low_1)], .im 2 false [.sc (.int .i64 high_2)]] = some ([(false, [.im 0 (.sc (.bool r))])], []) := by
  unfold spec_l00In at h
  refine FL_goS (A := [(0, .v false [.im 2 (.sc (.int .i64 n_0))]), (1, .v false [.im 2 (.sc (.int .i64 low_1))]), (2, .v false [.im 2 (.sc (.int .i64 high_2))])]) (B := [(0, none), (1, none), (2, none)]) (nt := 15) rfl rfl Try.func102 rfl rfl rfl rfl ?_
  refine Go.seq ?_
  refine Go.r0 c102 rfl rfl (sq z102 (oAsI rfl rfl) <| nl) ?_
  refine Unw.seq ?_
  refine Go.seq ?_
  refine Go.rX c102 rfl rfl rfl (mk [(6, bv ((decide (n_0 ≥ low_1)) && (decide (n_0 ≤ high_2))))] []) ?_ ?_
  · by_cases hc1 : n_0 ≥ low_1
    · exact ⟨_, sq z102 (oMv rfl rfl) <| sq z102 (oMv rfl rfl) <| sq z102 (oBi rfl rfl rfl rfl) <| sq z102 (oMv rfl rfl) <| sgT z102 rfl rfl (iDec.2 hc1) (oMv rfl rfl) <| sgT z102 rfl rfl (iDec.2 hc1) (oMv rfl rfl) <| sgT z102 rfl rfl (iDec.2 hc1) (oBi rfl rfl rfl rfl) <| sq z102 (oPkT rfl rfl (iDec.2 hc1) rfl) <| sq z102 (oAsI rfl rfl) <| nl, (Eq.trans (b := (fun t_6_m1 : Bool => mk [(6, bv t_6_m1)] []) (decide (n_0 ≤ high_2))) (by kernel_rfl) (congrArg (fun t_6_m1 : Bool => mk [(6, bv t_6_m1)] []) (by first | rfl | simp [(iDec.2 hc1)])))⟩
    · exact ⟨_, sq z102 (oMv rfl rfl) <| sq z102 (oMv rfl rfl) <| sq z102 (oBi rfl rfl rfl rfl) <| sq z102 (oMv rfl rfl) <| sgF rfl rfl (byF iDec hc1) rfl <| sgF rfl rfl (byF iDec hc1) rfl <| sgF rfl rfl (byF iDec hc1) rfl <| sq z102 (oPkF rfl rfl (byF iDec hc1) rfl) <| sq z102 (oAsI rfl rfl) <| nl, (Eq.trans (b := (fun t_6_m1 : Bool => mk [(6, bv t_6_m1)] []) false) (by kernel_rfl) (congrArg (fun t_6_m1 : Bool => mk [(6, bv t_6_m1)] []) (by first | rfl | simp [(byF iDec hc1)])))⟩
  · refine Unw.seq ?_
    refine Go.ret (Unw.ret ?_)
    cases h
    exact Fin_ret (fin_of rfl rF102 rfl (by kernel_rfl))
theorem L_spec_l22One {c_0 : S_Coat} {r : Bool} (h : spec_l22One c_0 = some r) : FL Try.prog cfg 251 [.im 2 false [.cp [.sc (.string c_0.Name), .sc (.int .i64 c_0.Work), .sc (.int .i64 c_0.Dry), .sc (.int .i64 c_0.Wait)] 0]] = some ([(false, [.im 0 (.sc (.bool r))])], []) := by
  unfold spec_l22One at h
  refine FL_goS (A := [(0, .v false [.im 2 (.cp [.sc (.string c_0.Name), .sc (.int .i64 c_0.Work), .sc (.int .i64 c_0.Dry), .sc (.int .i64 c_0.Wait)] 0)])]) (B := [(0, none)]) (nt := 33) rfl rfl Try.func251 rfl rfl rfl rfl ?_
  refine Go.seq ?_
  refine Go.r0 c251 rfl rfl (sq z251 (oAsI rfl rfl) <| nl) ?_
  refine Unw.seq ?_
  refine Go.seq ?_
  obtain ⟨x7, hx7, h⟩ := bs h
  obtain ⟨t_2_m1, hm4, h⟩ := bs h
  refine Go.dr c251 rfl rfl rfl rfl (mk [(2, bv t_2_m1)] []) ?_ ?_
  · by_cases hc1 : x7 = true
    · rw [if_pos hc1] at hm4
      obtain ⟨x13, hx13, hm4⟩ := bs hm4
      by_cases hc2 : x13 = true
      · rw [if_pos hc2] at hm4
        obtain ⟨x20, hx20, hm4⟩ := bs hm4
        by_cases hc3 : x20 = true
        · rw [if_pos hc3] at hm4
          obtain ⟨x31, hx31, hm4⟩ := bs hm4
          cases hm4
          exact sT rfl (dN z251 rfl (oMv rfl rfl)) <| sT rfl (dN z251 rfl (oNl rfl rfl rfl)) <| sT rfl (dN z251 rfl (oFA (r' := .im 2 _) rfl fF128_0 rfl rfl)) <| sT rfl (dN z251 rfl (oLd (cs := [.im 2 _]) rfl tF9 rfl rfl)) <| sS (dN z251 rfl (oCa (xs := [.v false [.im 2 _]]) (vs := [(false, [.im 0 _])]) (v := .v false [.im 0 _]) (L_spec_l01Name hx7) (.inl rfl) rfl kF252_9 rfl (ppC rfl pp0) rfl rfl pb0 rfl rfl rfl)) trivial (sT rfl (dN z251 rfl (oMv rfl rfl)) <| sT rfl (dT z251 rfl rfl rfl (Iff.rfl.2 hc1) (oMv rfl rfl)) <| sT rfl (dT z251 rfl rfl rfl (Iff.rfl.2 hc1) (oNl rfl rfl rfl)) <| sT rfl (dT z251 rfl rfl rfl (Iff.rfl.2 hc1) (oFA (r' := .im 2 _) rfl fF128_1 rfl rfl)) <| sT rfl (dT z251 rfl rfl rfl (Iff.rfl.2 hc1) (oLd (cs := [.im 2 _]) rfl tF2 rfl rfl)) <| sS (dT z251 rfl rfl rfl (Iff.rfl.2 hc1) (oCa (xs := [.v false [.im 2 _], .v false [.im 0 _], .v false [.im 0 _]]) (vs := [(false, [.im 0 _])]) (v := .v false [.im 0 _]) (L_spec_l00In hx13) (.inl rfl) rfl kF102_2_2_2 rfl (ppC rfl (ppC rfl (ppC rfl pp0))) rfl rfl pb0 rfl rfl rfl)) trivial (sT rfl (dN z251 rfl (oPkT rfl rfl (Iff.rfl.2 hc1) rfl)) <| sT rfl (dN z251 rfl (oMv rfl rfl)) <| sT rfl (dT z251 rfl rfl rfl (Iff.rfl.2 hc2) (oMv rfl rfl)) <| sT rfl (dT z251 rfl rfl rfl (Iff.rfl.2 hc2) (oNl rfl rfl rfl)) <| sT rfl (dT z251 rfl rfl rfl (Iff.rfl.2 hc2) (oFA (r' := .im 2 _) rfl fF128_2 rfl rfl)) <| sT rfl (dT z251 rfl rfl rfl (Iff.rfl.2 hc2) (oLd (cs := [.im 2 _]) rfl tF2 rfl rfl)) <| sS (dT z251 rfl rfl rfl (Iff.rfl.2 hc2) (oCa (xs := [.v false [.im 2 _], .v false [.im 0 _], .v false [.im 0 _]]) (vs := [(false, [.im 0 _])]) (v := .v false [.im 0 _]) (L_spec_l00In hx20) (.inl rfl) rfl kF102_2_2_2 rfl (ppC rfl (ppC rfl (ppC rfl pp0))) rfl rfl pb0 rfl rfl rfl)) trivial (sT rfl (dN z251 rfl (oPkT rfl rfl (Iff.rfl.2 hc2) rfl)) <| sT rfl (dN z251 rfl (oMv rfl rfl)) <| sT rfl (dT z251 rfl rfl rfl (Iff.rfl.2 hc3) (oMv rfl rfl)) <| sT rfl (dT z251 rfl rfl rfl (Iff.rfl.2 hc3) (oNl rfl rfl rfl)) <| sT rfl (dT z251 rfl rfl rfl (Iff.rfl.2 hc3) (oFA (r' := .im 2 _) rfl fF128_3 rfl rfl)) <| sT rfl (dT z251 rfl rfl rfl (Iff.rfl.2 hc3) (oLd (cs := [.im 2 _]) rfl tF2 rfl rfl)) <| sT rfl (dT z251 rfl rfl rfl (Iff.rfl.2 hc3) (oMv rfl rfl)) <| sT rfl (dT z251 rfl rfl rfl (Iff.rfl.2 hc3) (oNl rfl rfl rfl)) <| sT rfl (dT z251 rfl rfl rfl (Iff.rfl.2 hc3) (oFA (r' := .im 2 _) rfl fF128_2 rfl rfl)) <| sT rfl (dT z251 rfl rfl rfl (Iff.rfl.2 hc3) (oLd (cs := [.im 2 _]) rfl tF2 rfl rfl)) <| sS (dT z251 rfl rfl rfl (Iff.rfl.2 hc3) (oCa (xs := [.v false [.im 2 _], .v false [.im 2 _], .v false [.im 0 _]]) (vs := [(false, [.im 0 _])]) (v := .v false [.im 0 _]) (L_spec_l00In hx31) (.inl rfl) rfl kF102_2_2_2 rfl (ppC rfl (ppC rfl (ppC rfl pp0))) rfl rfl pb0 rfl rfl rfl)) trivial (sT rfl (dN z251 rfl (oPkT rfl rfl (Iff.rfl.2 hc3) rfl)) <| sS (dN z251 rfl (oAsI rfl rfl)) trivial (sD (by kernel_rfl))))))
        · rw [if_neg hc3] at hm4
          cases hm4
          exact sT rfl (dN z251 rfl (oMv rfl rfl)) <| sT rfl (dN z251 rfl (oNl rfl rfl rfl)) <| sT rfl (dN z251 rfl (oFA (r' := .im 2 _) rfl fF128_0 rfl rfl)) <| sT rfl (dN z251 rfl (oLd (cs := [.im 2 _]) rfl tF9 rfl rfl)) <| sS (dN z251 rfl (oCa (xs := [.v false [.im 2 _]]) (vs := [(false, [.im 0 _])]) (v := .v false [.im 0 _]) (L_spec_l01Name hx7) (.inl rfl) rfl kF252_9 rfl (ppC rfl pp0) rfl rfl pb0 rfl rfl rfl)) trivial (sT rfl (dN z251 rfl (oMv rfl rfl)) <| sT rfl (dT z251 rfl rfl rfl (Iff.rfl.2 hc1) (oMv rfl rfl)) <| sT rfl (dT z251 rfl rfl rfl (Iff.rfl.2 hc1) (oNl rfl rfl rfl)) <| sT rfl (dT z251 rfl rfl rfl (Iff.rfl.2 hc1) (oFA (r' := .im 2 _) rfl fF128_1 rfl rfl)) <| sT rfl (dT z251 rfl rfl rfl (Iff.rfl.2 hc1) (oLd (cs := [.im 2 _]) rfl tF2 rfl rfl)) <| sS (dT z251 rfl rfl rfl (Iff.rfl.2 hc1) (oCa (xs := [.v false [.im 2 _], .v false [.im 0 _], .v false [.im 0 _]]) (vs := [(false, [.im 0 _])]) (v := .v false [.im 0 _]) (L_spec_l00In hx13) (.inl rfl) rfl kF102_2_2_2 rfl (ppC rfl (ppC rfl (ppC rfl pp0))) rfl rfl pb0 rfl rfl rfl)) trivial (sT rfl (dN z251 rfl (oPkT rfl rfl (Iff.rfl.2 hc1) rfl)) <| sT rfl (dN z251 rfl (oMv rfl rfl)) <| sT rfl (dT z251 rfl rfl rfl (Iff.rfl.2 hc2) (oMv rfl rfl)) <| sT rfl (dT z251 rfl rfl rfl (Iff.rfl.2 hc2) (oNl rfl rfl rfl)) <| sT rfl (dT z251 rfl rfl rfl (Iff.rfl.2 hc2) (oFA (r' := .im 2 _) rfl fF128_2 rfl rfl)) <| sT rfl (dT z251 rfl rfl rfl (Iff.rfl.2 hc2) (oLd (cs := [.im 2 _]) rfl tF2 rfl rfl)) <| sS (dT z251 rfl rfl rfl (Iff.rfl.2 hc2) (oCa (xs := [.v false [.im 2 _], .v false [.im 0 _], .v false [.im 0 _]]) (vs := [(false, [.im 0 _])]) (v := .v false [.im 0 _]) (L_spec_l00In hx20) (.inl rfl) rfl kF102_2_2_2 rfl (ppC rfl (ppC rfl (ppC rfl pp0))) rfl rfl pb0 rfl rfl rfl)) trivial (sT rfl (dN z251 rfl (oPkT rfl rfl (Iff.rfl.2 hc2) rfl)) <| sT rfl (dN z251 rfl (oMv rfl rfl)) <| sT rfl (dF rfl rfl rfl (byF Iff.rfl hc3) rfl) <| sT rfl (dF rfl rfl rfl (byF Iff.rfl hc3) rfl) <| sT rfl (dF rfl rfl rfl (byF Iff.rfl hc3) rfl) <| sT rfl (dF rfl rfl rfl (byF Iff.rfl hc3) rfl) <| sT rfl (dF rfl rfl rfl (byF Iff.rfl hc3) rfl) <| sT rfl (dF rfl rfl rfl (byF Iff.rfl hc3) rfl) <| sT rfl (dF rfl rfl rfl (byF Iff.rfl hc3) rfl) <| sT rfl (dF rfl rfl rfl (byF Iff.rfl hc3) rfl) <| sS (dF rfl rfl rfl (byF Iff.rfl hc3) rfl) trivial (sT rfl (dN z251 rfl (oPkF rfl rfl (byF Iff.rfl hc3) rfl)) <| sS (dN z251 rfl (oAsI rfl rfl)) trivial (sD (by kernel_rfl))))))
      · rw [if_neg hc2] at hm4
        cases hm4
        exact sT rfl (dN z251 rfl (oMv rfl rfl)) <| sT rfl (dN z251 rfl (oNl rfl rfl rfl)) <| sT rfl (dN z251 rfl (oFA (r' := .im 2 _) rfl fF128_0 rfl rfl)) <| sT rfl (dN z251 rfl (oLd (cs := [.im 2 _]) rfl tF9 rfl rfl)) <| sS (dN z251 rfl (oCa (xs := [.v false [.im 2 _]]) (vs := [(false, [.im 0 _])]) (v := .v false [.im 0 _]) (L_spec_l01Name hx7) (.inl rfl) rfl kF252_9 rfl (ppC rfl pp0) rfl rfl pb0 rfl rfl rfl)) trivial (sT rfl (dN z251 rfl (oMv rfl rfl)) <| sT rfl (dT z251 rfl rfl rfl (Iff.rfl.2 hc1) (oMv rfl rfl)) <| sT rfl (dT z251 rfl rfl rfl (Iff.rfl.2 hc1) (oNl rfl rfl rfl)) <| sT rfl (dT z251 rfl rfl rfl (Iff.rfl.2 hc1) (oFA (r' := .im 2 _) rfl fF128_1 rfl rfl)) <| sT rfl (dT z251 rfl rfl rfl (Iff.rfl.2 hc1) (oLd (cs := [.im 2 _]) rfl tF2 rfl rfl)) <| sS (dT z251 rfl rfl rfl (Iff.rfl.2 hc1) (oCa (xs := [.v false [.im 2 _], .v false [.im 0 _], .v false [.im 0 _]]) (vs := [(false, [.im 0 _])]) (v := .v false [.im 0 _]) (L_spec_l00In hx13) (.inl rfl) rfl kF102_2_2_2 rfl (ppC rfl (ppC rfl (ppC rfl pp0))) rfl rfl pb0 rfl rfl rfl)) trivial (sT rfl (dN z251 rfl (oPkT rfl rfl (Iff.rfl.2 hc1) rfl)) <| sT rfl (dN z251 rfl (oMv rfl rfl)) <| sT rfl (dF rfl rfl rfl (byF Iff.rfl hc2) rfl) <| sT rfl (dF rfl rfl rfl (byF Iff.rfl hc2) rfl) <| sT rfl (dF rfl rfl rfl (byF Iff.rfl hc2) rfl) <| sT rfl (dF rfl rfl rfl (byF Iff.rfl hc2) rfl) <| sS (dF rfl rfl rfl (byF Iff.rfl hc2) rfl) trivial (sT rfl (dN z251 rfl (oPkF rfl rfl (byF Iff.rfl hc2) rfl)) <| sT rfl (dN z251 rfl (oMv rfl rfl)) <| sT rfl (dF rfl rfl rfl rfl rfl) <| sT rfl (dF rfl rfl rfl rfl rfl) <| sT rfl (dF rfl rfl rfl rfl rfl) <| sT rfl (dF rfl rfl rfl rfl rfl) <| sT rfl (dF rfl rfl rfl rfl rfl) <| sT rfl (dF rfl rfl rfl rfl rfl) <| sT rfl (dF rfl rfl rfl rfl rfl) <| sT rfl (dF rfl rfl rfl rfl rfl) <| sS (dF rfl rfl rfl rfl rfl) trivial (sT rfl (dN z251 rfl (oPkF rfl rfl rfl rfl)) <| sS (dN z251 rfl (oAsI rfl rfl)) trivial (sD (by kernel_rfl))))))
    · rw [if_neg hc1] at hm4
      cases hm4
      exact sT rfl (dN z251 rfl (oMv rfl rfl)) <| sT rfl (dN z251 rfl (oNl rfl rfl rfl)) <| sT rfl (dN z251 rfl (oFA (r' := .im 2 _) rfl fF128_0 rfl rfl)) <| sT rfl (dN z251 rfl (oLd (cs := [.im 2 _]) rfl tF9 rfl rfl)) <| sS (dN z251 rfl (oCa (xs := [.v false [.im 2 _]]) (vs := [(false, [.im 0 _])]) (v := .v false [.im 0 _]) (L_spec_l01Name hx7) (.inl rfl) rfl kF252_9 rfl (ppC rfl pp0) rfl rfl pb0 rfl rfl rfl)) trivial (sT rfl (dN z251 rfl (oMv rfl rfl)) <| sT rfl (dF rfl rfl rfl (byF Iff.rfl hc1) rfl) <| sT rfl (dF rfl rfl rfl (byF Iff.rfl hc1) rfl) <| sT rfl (dF rfl rfl rfl (byF Iff.rfl hc1) rfl) <| sT rfl (dF rfl rfl rfl (byF Iff.rfl hc1) rfl) <| sS (dF rfl rfl rfl (byF Iff.rfl hc1) rfl) trivial (sT rfl (dN z251 rfl (oPkF rfl rfl (byF Iff.rfl hc1) rfl)) <| sT rfl (dN z251 rfl (oMv rfl rfl)) <| sT rfl (dF rfl rfl rfl rfl rfl) <| sT rfl (dF rfl rfl rfl rfl rfl) <| sT rfl (dF rfl rfl rfl rfl rfl) <| sT rfl (dF rfl rfl rfl rfl rfl) <| sS (dF rfl rfl rfl rfl rfl) trivial (sT rfl (dN z251 rfl (oPkF rfl rfl rfl rfl)) <| sT rfl (dN z251 rfl (oMv rfl rfl)) <| sT rfl (dF rfl rfl rfl rfl rfl) <| sT rfl (dF rfl rfl rfl rfl rfl) <| sT rfl (dF rfl rfl rfl rfl rfl) <| sT rfl (dF rfl rfl rfl rfl rfl) <| sT rfl (dF rfl rfl rfl rfl rfl) <| sT rfl (dF rfl rfl rfl rfl rfl) <| sT rfl (dF rfl rfl rfl rfl rfl) <| sT rfl (dF rfl rfl rfl rfl rfl) <| sS (dF rfl rfl rfl rfl rfl) trivial (sT rfl (dN z251 rfl (oPkF rfl rfl rfl rfl)) <| sS (dN z251 rfl (oAsI rfl rfl)) trivial (sD (by kernel_rfl))))))
  · refine Unw.seq ?_
    refine Go.ret (Unw.ret ?_)
    cases h
    exact Fin_ret (fin_of rfl rF251 rfl (by kernel_rfl))
theorem L_spec_l22Ok {list_0 : (List S_Coat)} {r : Bool} (h : spec_l22Ok list_0 = some r) : FL Try.prog cfg 190 [.im 2 false [.row 4 (List.map e_S_Coat list_0)]] = some ([(false, [.im 0 (.sc (.bool r))])], []) := by
  unfold spec_l22Ok at h
  refine FL_goS (A := [(0, .v false [.im 2 (.row 4 (List.map e_S_Coat list_0))])]) (B := [(0, none)]) (nt := 18) rfl rfl Try.func190 rfl rfl rfl rfl ?_
  refine Go.seq ?_
  refine Go.r0 c190 rfl rfl (sq z190 (oAsI rfl rfl) <| nl) ?_
  refine Unw.seq ?_
  refine Go.seq ?_
  refine Go.seq ?_
  refine Go.r0 c190 rfl rfl (sq z190 (oAsI rfl rfl) <| nl) ?_
  refine Unw.seq ?_
  refine Go.block ?_
  obtain ⟨o, hl, h⟩ := bs h
  refine Go.lp c190 rfl _ (fun (i_3_l2 : Int) => mk [(0, .v false [.im 2 (.row 4 (List.map e_S_Coat list_0))]), (3, iv i_3_l2)] []) (fun (o : (Unit ⊕ Bool)) (p : Ex × St) => match o with | (.inl _) => p.1 = .exit 0 ∧ p.2.norm ([0], []) = mk [(0, .v false [.im 2 (.row 4 (List.map e_S_Coat list_0))])] [] | (.inr r2) => p.1 = .ret ∧ fin Try.prog cfg 190 Try.f190 [.im 2 false [.row 4 (List.map e_S_Coat list_0)]] p.2 = some ([(false, [.im 0 (.sc (.bool r2))])], [])) hl (by kernel_rfl) ?_ ?_ ?_
  · intro o p hp e
    rcases o with u | r2 <;> exact nomatch (hp.1.symm.trans e)
  · rintro i_3_l2 o h
    unfold spec_l22Ok_l2 at h
    refine Go.seq ?_
    refine Go.seq ?_
    refine Go.r0 c190 rfl rfl (sq z190 (oMv rfl rfl) <| sq z190 (oMv rfl rfl) <| sq z190 (oLnI rfl rfl uF24 rfl) <| sq z190 (oBi rfl rfl rfl rfl) <| nl) ?_
    refine Unw.seq ?_
    by_cases hc5 : i_3_l2 < (list_0.length : Int)
    · rw [if_pos hc5] at h
      refine Go.condT rfl (iDec.2 hc5) ?_
      refine Go.skip ?_
      refine Unw.seq ?_
      refine Go.seq ?_
      refine Go.block ?_
      refine Go.seq ?_
      obtain ⟨x12, hx12, h⟩ := bs h
      obtain ⟨x13, hx13, h⟩ := bs h
      refine Go.r0 c190 rfl rfl (sq z190 (oMv rfl rfl) <| sq z190 (oMv rfl rfl) <| sq z190 (oIAI rfl hx12 sF24 rfl rfl) <| sq z190 (oCa (xs := [.v false [.im 2 _]]) (vs := [(false, [.im 0 _])]) (v := .v false [.im 0 _]) (L_spec_l22One hx13) (.inl rfl) rfl kF251_342 rfl (ppC rfl pp0) rfl rfl pb0 rfl rfl rfl) <| sq z190 (oUn rfl rfl rfl) <| nl) ?_
      refine Unw.seq ?_
      by_cases hc6 : x13 = true
      · rw [if_pos hc6] at h
        refine Go.condF rfl (nF (Iff.rfl.2 hc6)) ?_
        refine Go.skip ?_
        refine Unw.blk ?_
        refine Unw.seq ?_
        refine Go.r0 c190 rfl rfl (sq z190 (oMv rfl rfl) <| sq z190 (oBi rfl rfl rfl rfl) <| sq z190 (oAsI rfl rfl) <| nl) ?_
        refine Unw.nil ?_
        cases h
        exact ⟨rfl, (by kernel_rfl)⟩
      · rw [if_neg hc6] at h
        refine Go.condT rfl (nT (byF Iff.rfl hc6)) ?_
        refine Go.seq ?_
        refine Go.r0 c190 rfl rfl (sq z190 (oAsI rfl rfl) <| nl) ?_
        refine Unw.seq ?_
        refine Go.ret (Unw.ret ?_)
        cases h
        exact ⟨rfl, (fin_of rfl rF190 rfl (by kernel_rfl))⟩
    · rw [if_neg hc5] at h
      refine Go.condF rfl (byF iDec hc5) ?_
      refine Go.exit ?_
      refine Unw.seqx ?_
      refine Unw.nil ?_
      cases h
      exact ⟨rfl, (by kernel_rfl)⟩
  · rintro ⟨e, st⟩ hp
    rcases o with u | r2
    · dsimp only at h
      obtain ⟨he, hst⟩ := hp
      obtain rfl : e = .exit 0 := he
      refine Unw.blkx ?_
      refine Unw.seq ?_
      refine Go.seq ?_
      refine Go.r1 c190 rfl rfl hst (sq z190 (oMv rfl rfl) <| sq z190 (oLnI rfl rfl uF24 rfl) <| sq z190 (oBi rfl rfl rfl rfl) <| sq z190 (oAsI rfl rfl) <| nl) ?_
      refine Unw.seq ?_
      refine Go.ret (Unw.ret ?_)
      cases h
      exact Fin_ret (fin_of rfl rF190 rfl (by kernel_rfl))
    · dsimp only at h
      obtain ⟨he, hfin⟩ := hp
      obtain rfl : e = .ret := he
      cases h
      exact Unw.ret (Fin_ret hfin)
theorem L_spec_l22Time {t_0 : Int} {r : Bool} (h : spec_l22Time t_0 = some r) : FL Try.prog cfg 191 [.im 2 false [.sc (.int .i64 t_0)]] = some ([(false, [.im 0 (.sc (.bool r))])], []) := by
  unfold spec_l22Time at h
  refine FL_goS (A := [(0, .v false [.im 2 (.sc (.int .i64 t_0))])]) (B := [(0, none)]) (nt := 5) rfl rfl Try.func191 rfl rfl rfl rfl ?_
  refine Go.seq ?_
  refine Go.r0 c191 rfl rfl (sq z191 (oAsI rfl rfl) <| nl) ?_
  refine Unw.seq ?_
  refine Go.seq ?_
  obtain ⟨x4, hx4, h⟩ := bs h
  refine Go.r0 c191 rfl rfl (sq z191 (oMv rfl rfl) <| sq z191 (oCa (xs := [.v false [.im 2 _], .v false [.im 0 _], .v false [.im 0 _]]) (vs := [(false, [.im 0 _])]) (v := .v false [.im 0 _]) (L_spec_l00In hx4) (.inl rfl) rfl kF102_2_2_2 rfl (ppC rfl (ppC rfl (ppC rfl pp0))) rfl rfl pb0 rfl rfl rfl) <| sq z191 (oAsI rfl rfl) <| nl) ?_
  refine Unw.seq ?_
  refine Go.ret (Unw.ret ?_)
  cases h
  exact Fin_ret (fin_of rfl rF191 rfl (by kernel_rfl))
theorem L_spec_l22Hours {open_0 : Int} {end_1 : Int} {r : Bool} (h : spec_l22Hours open_0 end_1 = some r) : FL Try.prog cfg 192 [.im 2 false [.sc (.int .i64 open_0)], .im 2 false [.sc (.int .i64 end_1)]] = some ([(false, [.im 0 (.sc (.bool r))])], []) := by
  unfold spec_l22Hours at h
  refine FL_goS (A := [(0, .v false [.im 2 (.sc (.int .i64 open_0))]), (1, .v false [.im 2 (.sc (.int .i64 end_1))])]) (B := [(0, none), (1, none)]) (nt := 13) rfl rfl Try.func192 rfl rfl rfl rfl ?_
  refine Go.seq ?_
  refine Go.r0 c192 rfl rfl (sq z192 (oAsI rfl rfl) <| nl) ?_
  refine Unw.seq ?_
  refine Go.seq ?_
  obtain ⟨x6, hx6, h⟩ := bs h
  obtain ⟨t_4_m1, hm2, h⟩ := bs h
  refine Go.rX c192 rfl rfl rfl (mk [(4, bv t_4_m1)] []) ?_ ?_
  · by_cases hc1 : x6 = true
    · rw [if_pos hc1] at hm2
      obtain ⟨x11, hx11, hm2⟩ := bs hm2
      cases hm2
      exact ⟨_, sq z192 (oMv rfl rfl) <| sq z192 (oCa (xs := [.v false [.im 2 _], .v false [.im 0 _], .v false [.im 0 _]]) (vs := [(false, [.im 0 _])]) (v := .v false [.im 0 _]) (L_spec_l00In hx6) (.inl rfl) rfl kF102_2_2_2 rfl (ppC rfl (ppC rfl (ppC rfl pp0))) rfl rfl pb0 rfl rfl rfl) <| sq z192 (oMv rfl rfl) <| sgT z192 rfl rfl (Iff.rfl.2 hc1) (oMv rfl rfl) <| sgT z192 rfl rfl (Iff.rfl.2 hc1) (oMv rfl rfl) <| sgT z192 rfl rfl (Iff.rfl.2 hc1) (oBi rfl rfl rfl rfl) <| sgT z192 rfl rfl (Iff.rfl.2 hc1) (oCa (xs := [.v false [.im 2 _], .v false [.im 0 _], .v false [.im 0 _]]) (vs := [(false, [.im 0 _])]) (v := .v false [.im 0 _]) (L_spec_l00In hx11) (.inl rfl) rfl kF102_2_2_2 rfl (ppC rfl (ppC rfl (ppC rfl pp0))) rfl rfl pb0 rfl rfl rfl) <| sq z192 (oPkT rfl rfl (Iff.rfl.2 hc1) rfl) <| sq z192 (oAsI rfl rfl) <| nl, (by kernel_rfl)⟩
    · rw [if_neg hc1] at hm2
      cases hm2
      exact ⟨_, sq z192 (oMv rfl rfl) <| sq z192 (oCa (xs := [.v false [.im 2 _], .v false [.im 0 _], .v false [.im 0 _]]) (vs := [(false, [.im 0 _])]) (v := .v false [.im 0 _]) (L_spec_l00In hx6) (.inl rfl) rfl kF102_2_2_2 rfl (ppC rfl (ppC rfl (ppC rfl pp0))) rfl rfl pb0 rfl rfl rfl) <| sq z192 (oMv rfl rfl) <| sgF rfl rfl (byF Iff.rfl hc1) rfl <| sgF rfl rfl (byF Iff.rfl hc1) rfl <| sgF rfl rfl (byF Iff.rfl hc1) rfl <| sgF rfl rfl (byF Iff.rfl hc1) rfl <| sq z192 (oPkF rfl rfl (byF Iff.rfl hc1) rfl) <| sq z192 (oAsI rfl rfl) <| nl, (by kernel_rfl)⟩
  · refine Unw.seq ?_
    refine Go.ret (Unw.ret ?_)
    cases h
    exact Fin_ret (fin_of rfl rF192 rfl (by kernel_rfl))
theorem L_spec_l22Ask {list_0 : (List S_Coat)} {start_1 : Int} {open_2 : Int} {end_3 : Int} {r : Int} (h : spec_l22Ask list_0 start_1 open_2 end_3 = some r) : FL Try.prog cfg 101 [.im 2 false [.row 4 (List.map e_S_Coat list_0)], .im 2 false [.sc (.int .i64 start_1)], .im 2 false [.sc (.int .i64 open_2)], .im 2 false [.sc (.int .i64 end_3)]] = some ([(false, [.im 0 (.sc (.int .i64 r))])], []) := by
  unfold spec_l22Ask at h
  refine FL_goS (A := [(0, .v false [.im 2 (.row 4 (List.map e_S_Coat list_0))]), (1, .v false [.im 2 (.sc (.int .i64 start_1))]), (2, .v false [.im 2 (.sc (.int .i64 open_2))]), (3, .v false [.im 2 (.sc (.int .i64 end_3))])]) (B := [(0, none), (1, none), (2, none), (3, none)]) (nt := 21) rfl rfl Try.func101 rfl rfl rfl rfl ?_
  refine Go.seq ?_
  refine Go.r0 c101 rfl rfl (sq z101 (oAsI rfl rfl) <| nl) ?_
  refine Unw.seq ?_
  refine Go.seq ?_
  refine Go.seq ?_
  obtain ⟨x10, hx10, h⟩ := bs h
  refine Go.r0 c101 rfl rfl (sq z101 (oMv rfl rfl) <| sq z101 (oCa (xs := [.v false [.im 2 _]]) (vs := [(false, [.im 0 _])]) (v := .v false [.im 0 _]) (L_spec_l22Ok hx10) (.inl rfl) rfl kF190_24 rfl (ppC rfl pp0) rfl rfl pb0 rfl rfl rfl) <| sq z101 (oUn rfl rfl rfl) <| nl) ?_
  refine Unw.seq ?_
  by_cases hc1 : x10 = true
  · rw [if_pos hc1] at h
    refine Go.condF rfl (nF (Iff.rfl.2 hc1)) ?_
    refine Go.skip ?_
    refine Unw.seq ?_
    refine Go.seq ?_
    refine Go.seq ?_
    obtain ⟨x13, hx13, h⟩ := bs h
    obtain ⟨t_20_m3, hm4, h⟩ := bs h
    refine Go.rX c101 rfl rfl rfl (mk [(20, bv t_20_m3)] []) ?_ ?_
    · by_cases hc2 : x13 = true
      · rw [if_pos hc2] at hm4
        obtain ⟨x18, hx18, hm4⟩ := bs hm4
        cases hm4
        exact ⟨_, sq z101 (oMv rfl rfl) <| sq z101 (oCa (xs := [.v false [.im 2 _]]) (vs := [(false, [.im 0 _])]) (v := .v false [.im 0 _]) (L_spec_l22Time hx13) (.inl rfl) rfl kF191_2 rfl (ppC rfl pp0) rfl rfl pb0 rfl rfl rfl) <| sq z101 (oUn rfl rfl rfl) <| sq z101 (oMv rfl rfl) <| sgT z101 rfl rfl (nF (Iff.rfl.2 hc2)) (oMv rfl rfl) <| sgT z101 rfl rfl (nF (Iff.rfl.2 hc2)) (oMv rfl rfl) <| sgT z101 rfl rfl (nF (Iff.rfl.2 hc2)) (oCa (xs := [.v false [.im 2 _], .v false [.im 2 _]]) (vs := [(false, [.im 0 _])]) (v := .v false [.im 0 _]) (L_spec_l22Hours hx18) (.inl rfl) rfl kF192_2_2 rfl (ppC rfl (ppC rfl pp0)) rfl rfl pb0 rfl rfl rfl) <| sgT z101 rfl rfl (nF (Iff.rfl.2 hc2)) (oUn rfl rfl rfl) <| sq z101 (oPkF rfl rfl (nF (Iff.rfl.2 hc2)) rfl) <| nl, (by kernel_rfl)⟩
      · rw [if_neg hc2] at hm4
        cases hm4
        exact ⟨_, sq z101 (oMv rfl rfl) <| sq z101 (oCa (xs := [.v false [.im 2 _]]) (vs := [(false, [.im 0 _])]) (v := .v false [.im 0 _]) (L_spec_l22Time hx13) (.inl rfl) rfl kF191_2 rfl (ppC rfl pp0) rfl rfl pb0 rfl rfl rfl) <| sq z101 (oUn rfl rfl rfl) <| sq z101 (oMv rfl rfl) <| sgF rfl rfl (nT (byF Iff.rfl hc2)) rfl <| sgF rfl rfl (nT (byF Iff.rfl hc2)) rfl <| sgF rfl rfl (nT (byF Iff.rfl hc2)) rfl <| sgF rfl rfl (nT (byF Iff.rfl hc2)) rfl <| sq z101 (oPkT rfl rfl (nT (byF Iff.rfl hc2)) rfl) <| nl, (by kernel_rfl)⟩
    · refine Unw.seq ?_
      by_cases hc3 : t_20_m3 = true
      · rw [if_pos hc3] at h
        refine Go.condT rfl (Iff.rfl.2 hc3) ?_
        refine Go.seq ?_
        refine Go.r0 c101 rfl rfl (sq z101 (oAsI rfl rfl) <| nl) ?_
        refine Unw.seq ?_
        refine Go.ret (Unw.ret ?_)
        cases h
        exact Fin_ret (fin_of rfl rF101 rfl (by kernel_rfl))
      · rw [if_neg hc3] at h
        refine Go.condF rfl (byF Iff.rfl hc3) ?_
        refine Go.skip ?_
        refine Unw.seq ?_
        refine Go.seq ?_
        refine Go.r0 c101 rfl rfl (sq z101 (oAsI rfl rfl) <| nl) ?_
        refine Unw.seq ?_
        refine Go.ret (Unw.ret ?_)
        cases h
        exact Fin_ret (fin_of rfl rF101 rfl (by kernel_rfl))
  · rw [if_neg hc1] at h
    refine Go.condT rfl (nT (byF Iff.rfl hc1)) ?_
    refine Go.seq ?_
    refine Go.r0 c101 rfl rfl (sq z101 (oAsI rfl rfl) <| nl) ?_
    refine Unw.seq ?_
    refine Go.ret (Unw.ret ?_)
    cases h
    exact Fin_ret (fin_of rfl rF101 rfl (by kernel_rfl))
theorem L_spec_l22Long {list_0 : (List S_Coat)} {open_1 : Int} {end_2 : Int} {r : Bool} (h : spec_l22Long list_0 open_1 end_2 = some r) : FL Try.prog cfg 103 [.im 2 false [.row 4 (List.map e_S_Coat list_0)], .im 2 false [.sc (.int .i64 open_1)], .im 2 false [.sc (.int .i64 end_2)]] = some ([(false, [.im 0 (.sc (.bool r))])], []) := by
  unfold spec_l22Long at h
  refine FL_goS (A := [(0, .v false [.im 2 (.row 4 (List.map e_S_Coat list_0))]), (1, .v false [.im 2 (.sc (.int .i64 open_1))]), (2, .v false [.im 2 (.sc (.int .i64 end_2))])]) (B := [(0, none), (1, none), (2, none)]) (nt := 23) rfl rfl Try.func103 rfl rfl rfl rfl ?_
  refine Go.seq ?_
  refine Go.r0 c103 rfl rfl (sq z103 (oAsI rfl rfl) <| nl) ?_
  refine Unw.seq ?_
  refine Go.seq ?_
  refine Go.seq ?_
  refine Go.r0 c103 rfl rfl (sq z103 (oAsI rfl rfl) <| nl) ?_
  refine Unw.seq ?_
  refine Go.block ?_
  obtain ⟨o, hl, h⟩ := bs h
  refine Go.lp c103 rfl _ (fun (i_7_l2 : Int) => mk [(0, .v false [.im 2 (.row 4 (List.map e_S_Coat list_0))]), (1, iv open_1), (2, iv end_2), (7, iv i_7_l2)] []) (fun (o : (Unit ⊕ Bool)) (p : Ex × St) => match o with | (.inl _) => p.1 = .exit 0 ∧ p.2.norm ([], []) = mk [] [] | (.inr r2) => p.1 = .ret ∧ fin Try.prog cfg 103 Try.f103 [.im 2 false [.row 4 (List.map e_S_Coat list_0)], .im 2 false [.sc (.int .i64 open_1)], .im 2 false [.sc (.int .i64 end_2)]] p.2 = some ([(false, [.im 0 (.sc (.bool r2))])], [])) hl (by kernel_rfl) ?_ ?_ ?_
  · intro o p hp e
    rcases o with u | r2 <;> exact nomatch (hp.1.symm.trans e)
  · rintro i_7_l2 o h
    unfold spec_l22Long_l2 at h
    refine Go.seq ?_
    refine Go.seq ?_
    refine Go.r0 c103 rfl rfl (sq z103 (oMv rfl rfl) <| sq z103 (oMv rfl rfl) <| sq z103 (oLnI rfl rfl uF24 rfl) <| sq z103 (oBi rfl rfl rfl rfl) <| nl) ?_
    refine Unw.seq ?_
    by_cases hc5 : i_7_l2 < (list_0.length : Int)
    · rw [if_pos hc5] at h
      refine Go.condT rfl (iDec.2 hc5) ?_
      refine Go.skip ?_
      refine Unw.seq ?_
      refine Go.seq ?_
      refine Go.block ?_
      refine Go.seq ?_
      obtain ⟨x16, hx16, h⟩ := bs h
      refine Go.r0 c103 rfl rfl (sq z103 (oMv rfl rfl) <| sq z103 (oMv rfl rfl) <| sq z103 (oIAI rfl hx16 sF24 rfl rfl) <| sq z103 (oFA (r' := .im 2 _) rfl fF128_1 rfl rfl) <| sq z103 (oLd (cs := [.im 2 _]) rfl tF2 rfl rfl) <| sq z103 (oMv rfl rfl) <| sq z103 (oMv rfl rfl) <| sq z103 (oBi rfl rfl rfl rfl) <| sq z103 (oBi rfl rfl rfl rfl) <| nl) ?_
      refine Unw.seq ?_
      by_cases hc6 : x16.Work > (w64 (end_2 - open_1))
      · rw [if_pos hc6] at h
        refine Go.condT rfl (iDec.2 hc6) ?_
        refine Go.seq ?_
        refine Go.r0 c103 rfl rfl (sq z103 (oAsI rfl rfl) <| nl) ?_
        refine Unw.seq ?_
        refine Go.ret (Unw.ret ?_)
        cases h
        exact ⟨rfl, (fin_of rfl rF103 rfl (by kernel_rfl))⟩
      · rw [if_neg hc6] at h
        refine Go.condF rfl (byF iDec hc6) ?_
        refine Go.skip ?_
        refine Unw.blk ?_
        refine Unw.seq ?_
        refine Go.r0 c103 rfl rfl (sq z103 (oMv rfl rfl) <| sq z103 (oBi rfl rfl rfl rfl) <| sq z103 (oAsI rfl rfl) <| nl) ?_
        refine Unw.nil ?_
        cases h
        exact ⟨rfl, (by kernel_rfl)⟩
    · rw [if_neg hc5] at h
      refine Go.condF rfl (byF iDec hc5) ?_
      refine Go.exit ?_
      refine Unw.seqx ?_
      refine Unw.nil ?_
      cases h
      exact ⟨rfl, (by kernel_rfl)⟩
  · rintro ⟨e, st⟩ hp
    rcases o with u | r2
    · dsimp only at h
      obtain ⟨he, hst⟩ := hp
      obtain rfl : e = .exit 0 := he
      refine Unw.blkx ?_
      refine Unw.seq ?_
      refine Go.seq ?_
      refine Go.r1 c103 rfl rfl hst (sq z103 (oAsI rfl rfl) <| nl) ?_
      refine Unw.seq ?_
      refine Go.ret (Unw.ret ?_)
      cases h
      exact Fin_ret (fin_of rfl rF103 rfl (by kernel_rfl))
    · dsimp only at h
      obtain ⟨he, hfin⟩ := hp
      obtain rfl : e = .ret := he
      cases h
      exact Unw.ret (Fin_ret hfin)
theorem L_spec_l22Can {t_0 : Int} {open_1 : Int} {end_2 : Int} {work_3 : Int} {r : Bool} (h : spec_l22Can t_0 open_1 end_2 work_3 = some r) : FL Try.prog cfg 193 [.im 2 false [.sc (.int .i64 t_0)], .im 2 false [.sc (.int .i64 open_1)], .im 2 false [.sc (.int .i64 end_2)], .im 2 false [.sc (.int .i64 work_3)]] = some ([(false, [.im 0 (.sc (.bool r))])], []) := by
  unfold spec_l22Can at h
  refine FL_goS (A := [(0, .v false [.im 2 (.sc (.int .i64 t_0))]), (1, .v false [.im 2 (.sc (.int .i64 open_1))]), (2, .v false [.im 2 (.sc (.int .i64 end_2))]), (3, .v false [.im 2 (.sc (.int .i64 work_3))])]) (B := [(0, none), (1, none), (2, none), (3, none)]) (nt := 22) rfl rfl Try.func193 rfl rfl rfl rfl ?_
  refine Go.seq ?_
  refine Go.r0 c193 rfl rfl (sq z193 (oAsI rfl rfl) <| nl) ?_
  refine Unw.seq ?_
  refine Go.seq ?_
  obtain ⟨x11, hx11, h⟩ := bs h
  refine Go.r0 c193 rfl rfl (sq z193 (oMv rfl rfl) <| sq z193 (oRem rfl hx11 rfl rfl) <| sq z193 (oAsI rfl rfl) <| nl) ?_
  refine Unw.seq ?_
  refine Go.seq ?_
  refine Go.rX c193 rfl rfl rfl (mk [(8, bv ((decide (x11 ≥ open_1)) && (decide ((w64 (x11 + work_3)) ≤ end_2))))] []) ?_ ?_
  · by_cases hc1 : x11 ≥ open_1
    · exact ⟨_, sq z193 (oMv rfl rfl) <| sq z193 (oMv rfl rfl) <| sq z193 (oBi rfl rfl rfl rfl) <| sq z193 (oMv rfl rfl) <| sgT z193 rfl rfl (iDec.2 hc1) (oMv rfl rfl) <| sgT z193 rfl rfl (iDec.2 hc1) (oMv rfl rfl) <| sgT z193 rfl rfl (iDec.2 hc1) (oBi rfl rfl rfl rfl) <| sgT z193 rfl rfl (iDec.2 hc1) (oMv rfl rfl) <| sgT z193 rfl rfl (iDec.2 hc1) (oBi rfl rfl rfl rfl) <| sq z193 (oPkT rfl rfl (iDec.2 hc1) rfl) <| sq z193 (oAsI rfl rfl) <| nl, (Eq.trans (b := (fun t_8_m2 : Bool => mk [(8, bv t_8_m2)] []) (decide ((w64 (x11 + work_3)) ≤ end_2))) (by kernel_rfl) (congrArg (fun t_8_m2 : Bool => mk [(8, bv t_8_m2)] []) (by first | rfl | simp [(iDec.2 hc1)])))⟩
    · exact ⟨_, sq z193 (oMv rfl rfl) <| sq z193 (oMv rfl rfl) <| sq z193 (oBi rfl rfl rfl rfl) <| sq z193 (oMv rfl rfl) <| sgF rfl rfl (byF iDec hc1) rfl <| sgF rfl rfl (byF iDec hc1) rfl <| sgF rfl rfl (byF iDec hc1) rfl <| sgF rfl rfl (byF iDec hc1) rfl <| sgF rfl rfl (byF iDec hc1) rfl <| sq z193 (oPkF rfl rfl (byF iDec hc1) rfl) <| sq z193 (oAsI rfl rfl) <| nl, (Eq.trans (b := (fun t_8_m2 : Bool => mk [(8, bv t_8_m2)] []) false) (by kernel_rfl) (congrArg (fun t_8_m2 : Bool => mk [(8, bv t_8_m2)] []) (by first | rfl | simp [(byF iDec hc1)])))⟩
  · refine Unw.seq ?_
    refine Go.ret (Unw.ret ?_)
    cases h
    exact Fin_ret (fin_of rfl rF193 rfl (by kernel_rfl))
theorem L_spec_l22Search_run_F {self : S_l22Search → Option (Bool × S_l22Search)} (ih : ∀ {x_0 : S_l22Search} {r : (Bool × S_l22Search)}, self x_0 = some r → FL Try.prog cfg 104 [.ptr true [(.imm, .row 4 (List.map e_S_Coat x_0.list)), (.imm, .sc (.int .i64 x_0.start)), (.imm, .sc (.int .i64 x_0.open_)), (.imm, .sc (.int .i64 x_0.end_)), (.sh, .row 1 (List.map eI x_0.begins)), (.imm, .sc (.int .i64 x_0.nodes)), (.imm, .sc (.int .i64 x_0.budget)), (.imm, .sc (.bool x_0.full))]] = some ([(false, [.im 0 (.sc (.bool r.1))])], [.ptr true [(.imm, .row 4 (List.map e_S_Coat r.2.list)), (.imm, .sc (.int .i64 r.2.start)), (.imm, .sc (.int .i64 r.2.open_)), (.imm, .sc (.int .i64 r.2.end_)), (.sh, .row 1 (List.map eI r.2.begins)), (.imm, .sc (.int .i64 r.2.nodes)), (.imm, .sc (.int .i64 r.2.budget)), (.imm, .sc (.bool r.2.full))]])) {x_0 : S_l22Search} {r : (Bool × S_l22Search)} (h : spec_l22Search_run_F self x_0 = some r) : FL Try.prog cfg 104 [.ptr true [(.imm, .row 4 (List.map e_S_Coat x_0.list)), (.imm, .sc (.int .i64 x_0.start)), (.imm, .sc (.int .i64 x_0.open_)), (.imm, .sc (.int .i64 x_0.end_)), (.sh, .row 1 (List.map eI x_0.begins)), (.imm, .sc (.int .i64 x_0.nodes)), (.imm, .sc (.int .i64 x_0.budget)), (.imm, .sc (.bool x_0.full))]] = some ([(false, [.im 0 (.sc (.bool r.1))])], [.ptr true [(.imm, .row 4 (List.map e_S_Coat r.2.list)), (.imm, .sc (.int .i64 r.2.start)), (.imm, .sc (.int .i64 r.2.open_)), (.imm, .sc (.int .i64 r.2.end_)), (.sh, .row 1 (List.map eI r.2.begins)), (.imm, .sc (.int .i64 r.2.nodes)), (.imm, .sc (.int .i64 r.2.budget)), (.imm, .sc (.bool r.2.full))]]) := by
  unfold spec_l22Search_run_F at h
  refine FL_goS (A := [(0, .v false [.mp 0 0 0])]) (B := [(0, some ⟨0, 0, true, true, false, true, [⟨.imm, 0, 1, .row 4 (List.map e_S_Coat x_0.list)⟩, ⟨.imm, 0, 0, .sc (.int .i64 x_0.start)⟩, ⟨.imm, 0, 0, .sc (.int .i64 x_0.open_)⟩, ⟨.imm, 0, 0, .sc (.int .i64 x_0.end_)⟩, ⟨.sh, 0, 0, .row 1 (List.map eI x_0.begins)⟩, ⟨.imm, 0, 0, .sc (.int .i64 x_0.nodes)⟩, ⟨.imm, 0, 0, .sc (.int .i64 x_0.budget)⟩, ⟨.imm, 0, 0, .sc (.bool x_0.full)⟩]⟩)]) (nt := 141) rfl rfl Try.func104 rfl rfl rfl rfl ?_
  refine Go.seq ?_
  refine Go.r0 c104 rfl rfl (sq z104 (oAsI rfl rfl) <| nl) ?_
  refine Unw.seq ?_
  refine Go.seq ?_
  refine Go.r0 c104 rfl rfl (sq z104 (oMv rfl rfl) <| sq z104 (oNl rfl rfl rfl) <| sq z104 (oFA (r' := .mp 0 0 4) rfl fF148_4 rfl rfl) <| sq z104 (oLd (cs := [.own 0 0 4]) rfl tF27 rfl rfl) <| sq z104 (oLnO rfl rfl uF27 rfl rfl rfl (fun e => nomatch e)) <| sq z104 (oAsI rfl rfl) <| nl) ?_
  refine Unw.seq ?_
  refine Go.seq ?_
  refine Go.seq ?_
  refine Go.r0 c104 rfl rfl (sq z104 (oMv rfl rfl) <| sq z104 (oMv rfl rfl) <| sq z104 (oNl rfl rfl rfl) <| sq z104 (oFA (r' := .mp 0 0 0) rfl fF148_0 rfl rfl) <| sq z104 (oLd (cs := [.im 1 _]) rfl tF24 rfl rfl) <| sq z104 (oLnI rfl rfl uF24 rfl) <| sq z104 (oBi rfl rfl rfl rfl) <| nl) ?_
  refine Unw.seq ?_
  by_cases hc1 : (x_0.begins.length : Int) = (x_0.list.length : Int)
  · rw [if_pos hc1] at h
    refine Go.condT rfl (iEq.2 hc1) ?_
    refine Go.seq ?_
    refine Go.r0 c104 rfl rfl (sq z104 (oAsI rfl rfl) <| nl) ?_
    refine Unw.seq ?_
    refine Go.ret (Unw.ret ?_)
    cases h
    exact Fin_ret (fin_of rfl rF104 rfl (by kernel_rfl))
  · rw [if_neg hc1] at h
    refine Go.condF rfl (byF iEq hc1) ?_
    refine Go.skip ?_
    refine Unw.seq ?_
    refine Go.seq ?_
    refine Go.r0 c104 rfl rfl (sq z104 (oMv rfl rfl) <| sq z104 (oNl rfl rfl rfl) <| sq z104 (oFA (r' := .mp 0 0 1) rfl fF148_1 rfl rfl) <| sq z104 (oLd (cs := [.im 0 _]) rfl tF2 rfl rfl) <| sq z104 (oAsI rfl rfl) <| nl) ?_
    refine Unw.seq ?_
    refine Go.seq ?_
    refine Go.r0 c104 rfl rfl (sq z104 (oMv rfl rfl) <| sq z104 (oNl rfl rfl rfl) <| sq z104 (oFA (r' := .mp 0 0 1) rfl fF148_1 rfl rfl) <| sq z104 (oLd (cs := [.im 0 _]) rfl tF2 rfl rfl) <| sq z104 (oBi rfl rfl rfl rfl) <| sq z104 (oBi rfl rfl rfl rfl) <| sq z104 (oAsI rfl rfl) <| nl) ?_
    refine Unw.seq ?_
    refine Go.seq ?_
    refine Go.seq ?_
    refine Go.r0 c104 rfl rfl (sq z104 (oMv rfl rfl) <| sq z104 (oBi rfl rfl rfl rfl) <| nl) ?_
    refine Unw.seq ?_
    refine Go.join (fun st => ∃ low_4_r10, ∃ high_5_r10, spec_l22Search_run_k10 self x_0 low_4_r10 high_5_r10 = some r ∧ st.norm ([0, 3, 4, 5], [0]) = mk [(0, .v false [.mp 0 0 0]), (3, iv (x_0.begins.length : Int)), (4, iv low_4_r10), (5, iv high_5_r10)] [(0, some ⟨0, 0, true, true, false, true, [⟨.imm, 0, 1, .row 4 (List.map e_S_Coat x_0.list)⟩, ⟨.imm, 0, 0, .sc (.int .i64 x_0.start)⟩, ⟨.imm, 0, 0, .sc (.int .i64 x_0.open_)⟩, ⟨.imm, 0, 0, .sc (.int .i64 x_0.end_)⟩, ⟨.sh, 0, 0, .row 1 (List.map eI x_0.begins)⟩, ⟨.imm, 0, 0, .sc (.int .i64 x_0.nodes)⟩, ⟨.imm, 0, 0, .sc (.int .i64 x_0.budget)⟩, ⟨.imm, 0, 0, .sc (.bool x_0.full)⟩]⟩)]) ?_ ?_
    · rintro st ⟨low_4_r10, high_5_r10, h, hst⟩
      unfold spec_l22Search_run_k10 at h
      refine Unw.seq ?_
      refine Go.seq ?_
      refine Go.seq ?_
      refine Go.r1 c104 rfl rfl hst (sq z104 (oMv rfl rfl) <| sq z104 (oAsI rfl rfl) <| nl) ?_
      refine Unw.seq ?_
      refine Go.block ?_
      obtain ⟨o, hl, h⟩ := bs h
      refine Go.lp c104 rfl _ (fun (s : (Int × (List S_Coat) × Int × Int × Int × (List Int) × Int × Int × Bool)) => match s with | (t_7_l11, x_o0_0_l11, x_o0_1_l11, x_o0_2_l11, x_o0_3_l11, x_o0_4_l11, x_o0_5_l11, x_o0_6_l11, x_o0_7_l11) => mk [(0, .v false [.mp 0 0 0]), (3, iv (x_0.begins.length : Int)), (5, iv high_5_r10), (7, iv t_7_l11)] [(0, some ⟨0, 0, true, true, false, true, [⟨.imm, 0, 1, .row 4 (List.map e_S_Coat x_o0_0_l11)⟩, ⟨.imm, 0, 0, .sc (.int .i64 x_o0_1_l11)⟩, ⟨.imm, 0, 0, .sc (.int .i64 x_o0_2_l11)⟩, ⟨.imm, 0, 0, .sc (.int .i64 x_o0_3_l11)⟩, ⟨.sh, 0, 0, .row 1 (List.map eI x_o0_4_l11)⟩, ⟨.imm, 0, 0, .sc (.int .i64 x_o0_5_l11)⟩, ⟨.imm, 0, 0, .sc (.int .i64 x_o0_6_l11)⟩, ⟨.imm, 0, 0, .sc (.bool x_o0_7_l11)⟩]⟩)]) (fun (o : (((List S_Coat) × Int × Int × Int × (List Int) × Int × Int × Bool) ⊕ (Bool × S_l22Search))) (p : Ex × St) => match o with | (.inl (x_o0_0_e0_11, x_o0_1_e0_11, x_o0_2_e0_11, x_o0_3_e0_11, x_o0_4_e0_11, x_o0_5_e0_11, x_o0_6_e0_11, x_o0_7_e0_11)) => p.1 = .exit 0 ∧ p.2.norm ([], [0]) = mk [] [(0, some ⟨0, 0, true, true, false, true, [⟨.imm, 0, 1, .row 4 (List.map e_S_Coat x_o0_0_e0_11)⟩, ⟨.imm, 0, 0, .sc (.int .i64 x_o0_1_e0_11)⟩, ⟨.imm, 0, 0, .sc (.int .i64 x_o0_2_e0_11)⟩, ⟨.imm, 0, 0, .sc (.int .i64 x_o0_3_e0_11)⟩, ⟨.sh, 0, 0, .row 1 (List.map eI x_o0_4_e0_11)⟩, ⟨.imm, 0, 0, .sc (.int .i64 x_o0_5_e0_11)⟩, ⟨.imm, 0, 0, .sc (.int .i64 x_o0_6_e0_11)⟩, ⟨.imm, 0, 0, .sc (.bool x_o0_7_e0_11)⟩]⟩)] | (.inr r2) => p.1 = .ret ∧ fin Try.prog cfg 104 Try.f104 [.ptr true [(.imm, .row 4 (List.map e_S_Coat x_0.list)), (.imm, .sc (.int .i64 x_0.start)), (.imm, .sc (.int .i64 x_0.open_)), (.imm, .sc (.int .i64 x_0.end_)), (.sh, .row 1 (List.map eI x_0.begins)), (.imm, .sc (.int .i64 x_0.nodes)), (.imm, .sc (.int .i64 x_0.budget)), (.imm, .sc (.bool x_0.full))]] p.2 = some ([(false, [.im 0 (.sc (.bool r2.1))])], [.ptr true [(.imm, .row 4 (List.map e_S_Coat r2.2.list)), (.imm, .sc (.int .i64 r2.2.start)), (.imm, .sc (.int .i64 r2.2.open_)), (.imm, .sc (.int .i64 r2.2.end_)), (.sh, .row 1 (List.map eI r2.2.begins)), (.imm, .sc (.int .i64 r2.2.nodes)), (.imm, .sc (.int .i64 r2.2.budget)), (.imm, .sc (.bool r2.2.full))]])) hl (by kernel_rfl) ?_ ?_ ?_
      · intro o p hp e
        rcases o with ⟨x_o0_0_e0_11, x_o0_1_e0_11, x_o0_2_e0_11, x_o0_3_e0_11, x_o0_4_e0_11, x_o0_5_e0_11, x_o0_6_e0_11, x_o0_7_e0_11⟩ | r2 <;> exact nomatch (hp.1.symm.trans e)
      · rintro ⟨t_7_l11, x_o0_0_l11, x_o0_1_l11, x_o0_2_l11, x_o0_3_l11, x_o0_4_l11, x_o0_5_l11, x_o0_6_l11, x_o0_7_l11⟩ o h
        unfold spec_l22Search_run_l11 at h
        dsimp only at h
        refine Go.seq ?_
        refine Go.seq ?_
        refine Go.r0 c104 rfl rfl (sq z104 (oMv rfl rfl) <| sq z104 (oMv rfl rfl) <| sq z104 (oBi rfl rfl rfl rfl) <| nl) ?_
        refine Unw.seq ?_
        by_cases hc13 : t_7_l11 ≤ high_5_r10
        · rw [if_pos hc13] at h
          refine Go.condT rfl (iDec.2 hc13) ?_
          refine Go.skip ?_
          refine Unw.seq ?_
          refine Go.seq ?_
          refine Go.join (fun st => ∃ x_o0_0_r12, ∃ x_o0_1_r12, ∃ x_o0_2_r12, ∃ x_o0_3_r12, ∃ x_o0_4_r12, ∃ x_o0_5_r12, ∃ x_o0_6_r12, ∃ x_o0_7_r12, spec_l22Search_run_k12 self t_7_l11 x_o0_0_r12 x_o0_1_r12 x_o0_2_r12 x_o0_3_r12 x_o0_4_r12 x_o0_5_r12 x_o0_6_r12 x_o0_7_r12 = some o ∧ st.norm ([0, 3, 5, 7], [0]) = mk [(0, .v false [.mp 0 0 0]), (3, iv (x_0.begins.length : Int)), (5, iv high_5_r10), (7, iv t_7_l11)] [(0, some ⟨0, 0, true, true, false, true, [⟨.imm, 0, 1, .row 4 (List.map e_S_Coat x_o0_0_r12)⟩, ⟨.imm, 0, 0, .sc (.int .i64 x_o0_1_r12)⟩, ⟨.imm, 0, 0, .sc (.int .i64 x_o0_2_r12)⟩, ⟨.imm, 0, 0, .sc (.int .i64 x_o0_3_r12)⟩, ⟨.sh, 0, 0, .row 1 (List.map eI x_o0_4_r12)⟩, ⟨.imm, 0, 0, .sc (.int .i64 x_o0_5_r12)⟩, ⟨.imm, 0, 0, .sc (.int .i64 x_o0_6_r12)⟩, ⟨.imm, 0, 0, .sc (.bool x_o0_7_r12)⟩]⟩)]) ?_ ?_
          · rintro st ⟨x_o0_0_r12, x_o0_1_r12, x_o0_2_r12, x_o0_3_r12, x_o0_4_r12, x_o0_5_r12, x_o0_6_r12, x_o0_7_r12, h, hst⟩
            unfold spec_l22Search_run_k12 at h
            refine Unw.seq ?_
            refine Go.r1 c104 rfl rfl hst (sq z104 (oMv rfl rfl) <| sq z104 (oBi rfl rfl rfl rfl) <| sq z104 (oAsI rfl rfl) <| nl) ?_
            refine Unw.nil ?_
            cases h
            exact ⟨rfl, (by kernel_rfl)⟩
          · intro K18
            refine Go.block ?_
            refine Go.seq ?_
            refine Go.seq ?_
            obtain ⟨x92, hx92, h⟩ := bs h
            obtain ⟨x95, hx95, h⟩ := bs h
            refine Go.dr c104 rfl rfl rfl rfl (mk [(0, .v false [.mp 0 0 0]), (3, iv (x_0.begins.length : Int)), (5, iv high_5_r10), (7, iv t_7_l11), (96, bv (!x95))] [(0, some ⟨0, 0, true, true, false, true, [⟨.imm, 0, 1, .row 4 (List.map e_S_Coat x_o0_0_l11)⟩, ⟨.imm, 0, 0, .sc (.int .i64 x_o0_1_l11)⟩, ⟨.imm, 0, 0, .sc (.int .i64 x_o0_2_l11)⟩, ⟨.imm, 0, 0, .sc (.int .i64 x_o0_3_l11)⟩, ⟨.sh, 0, 0, .row 1 (List.map eI x_o0_4_l11)⟩, ⟨.imm, 0, 0, .sc (.int .i64 x_o0_5_l11)⟩, ⟨.imm, 0, 0, .sc (.int .i64 x_o0_6_l11)⟩, ⟨.imm, 0, 0, .sc (.bool x_o0_7_l11)⟩]⟩)]) (sT rfl (dN z104 rfl (oMv rfl rfl)) <| sT rfl (dN z104 rfl (oMv rfl rfl)) <| sT rfl (dN z104 rfl (oNl rfl rfl rfl)) <| sT rfl (dN z104 rfl (oFA (r' := .mp 0 0 2) rfl fF148_2 rfl rfl)) <| sT rfl (dN z104 rfl (oLd (cs := [.im 0 _]) rfl tF2 rfl rfl)) <| sT rfl (dN z104 rfl (oMv rfl rfl)) <| sT rfl (dN z104 rfl (oNl rfl rfl rfl)) <| sT rfl (dN z104 rfl (oFA (r' := .mp 0 0 3) rfl fF148_3 rfl rfl)) <| sT rfl (dN z104 rfl (oLd (cs := [.im 0 _]) rfl tF2 rfl rfl)) <| sT rfl (dN z104 rfl (oMv rfl rfl)) <| sT rfl (dN z104 rfl (oNl rfl rfl rfl)) <| sT rfl (dN z104 rfl (oFA (r' := .mp 0 0 0) rfl fF148_0 rfl rfl)) <| sT rfl (dN z104 rfl (oLd (cs := [.im 1 _]) rfl tF24 rfl rfl)) <| sT rfl (dN z104 rfl (oMv rfl rfl)) <| sT rfl (dN z104 rfl (oIAI rfl hx92 sF24 rfl rfl)) <| sT rfl (dN z104 rfl (oFA (r' := .im 1 _) rfl fF128_1 rfl rfl)) <| sT rfl (dN z104 rfl (oLd (cs := [.im 1 _]) rfl tF2 rfl rfl)) <| sS (dN z104 rfl (oCa (xs := [.v false [.im 0 _], .v false [.im 0 _], .v false [.im 0 _], .v false [.im 1 _]]) (vs := [(false, [.im 0 _])]) (v := .v false [.im 0 _]) (L_spec_l22Can hx95) (.inl rfl) rfl kF193_2_2_2_2 rfl (ppC rfl (ppC rfl (ppC rfl (ppC rfl pp0)))) rfl rfl pb0 rfl rfl rfl)) trivial (sT rfl (dN z104 rfl (oUn rfl rfl rfl)) <| sD (by kernel_rfl))) ?_
            refine Unw.seq ?_
            by_cases hc19 : x95 = true
            · rw [if_pos hc19] at h
              refine Go.condF rfl (nF (Iff.rfl.2 hc19)) ?_
              refine Go.skip ?_
              refine Unw.seq ?_
              refine Go.seq ?_
              refine Go.seq ?_
              refine Go.dr c104 rfl rfl rfl rfl (mk [(0, .v false [.mp 0 0 0]), (3, iv (x_0.begins.length : Int)), (5, iv high_5_r10), (7, iv t_7_l11), (105, bv (x_o0_5_l11 == x_o0_6_l11))] [(0, some ⟨0, 0, true, true, false, true, [⟨.imm, 0, 1, .row 4 (List.map e_S_Coat x_o0_0_l11)⟩, ⟨.imm, 0, 0, .sc (.int .i64 x_o0_1_l11)⟩, ⟨.imm, 0, 0, .sc (.int .i64 x_o0_2_l11)⟩, ⟨.imm, 0, 0, .sc (.int .i64 x_o0_3_l11)⟩, ⟨.sh, 0, 0, .row 1 (List.map eI x_o0_4_l11)⟩, ⟨.imm, 0, 0, .sc (.int .i64 x_o0_5_l11)⟩, ⟨.imm, 0, 0, .sc (.int .i64 x_o0_6_l11)⟩, ⟨.imm, 0, 0, .sc (.bool x_o0_7_l11)⟩]⟩)]) (sT rfl (dN z104 rfl (oMv rfl rfl)) <| sT rfl (dN z104 rfl (oNl rfl rfl rfl)) <| sT rfl (dN z104 rfl (oFA (r' := .mp 0 0 5) rfl fF148_5 rfl rfl)) <| sT rfl (dN z104 rfl (oLd (cs := [.im 0 _]) rfl tF2 rfl rfl)) <| sT rfl (dN z104 rfl (oMv rfl rfl)) <| sT rfl (dN z104 rfl (oNl rfl rfl rfl)) <| sT rfl (dN z104 rfl (oFA (r' := .mp 0 0 6) rfl fF148_6 rfl rfl)) <| sT rfl (dN z104 rfl (oLd (cs := [.im 0 _]) rfl tF2 rfl rfl)) <| sT rfl (dN z104 rfl (oBi rfl rfl rfl rfl)) <| sD (by kernel_rfl)) ?_
              refine Unw.seq ?_
              refine Go.join (fun st => ∃ x_o0_7_r16, spec_l22Search_run_k16 self t_7_l11 x_0 x_o0_0_l11 x_o0_1_l11 x_o0_2_l11 x_o0_3_l11 x_o0_4_l11 x_o0_5_l11 x_o0_6_l11 x_o0_7_r16 = some o ∧ st.norm ([0, 3, 5, 7], [0]) = mk [(0, .v false [.mp 0 0 0]), (3, iv (x_0.begins.length : Int)), (5, iv high_5_r10), (7, iv t_7_l11)] [(0, some ⟨0, 0, true, true, false, true, [⟨.imm, 0, 1, .row 4 (List.map e_S_Coat x_o0_0_l11)⟩, ⟨.imm, 0, 0, .sc (.int .i64 x_o0_1_l11)⟩, ⟨.imm, 0, 0, .sc (.int .i64 x_o0_2_l11)⟩, ⟨.imm, 0, 0, .sc (.int .i64 x_o0_3_l11)⟩, ⟨.sh, 0, 0, .row 1 (List.map eI x_o0_4_l11)⟩, ⟨.imm, 0, 0, .sc (.int .i64 x_o0_5_l11)⟩, ⟨.imm, 0, 0, .sc (.int .i64 x_o0_6_l11)⟩, ⟨.imm, 0, 0, .sc (.bool x_o0_7_r16)⟩]⟩)]) ?_ ?_
              · rintro st ⟨x_o0_7_r16, h, hst⟩
                unfold spec_l22Search_run_k16 at h
                refine Unw.seq ?_
                refine Go.seq ?_
                refine Go.seq ?_
                refine Go.r1 c104 rfl rfl hst (sq z104 (oMv rfl rfl) <| sq z104 (oNl rfl rfl rfl) <| sq z104 (oFA (r' := .mp 0 0 7) rfl fF148_7 rfl rfl) <| sq z104 (oLd (cs := [.im 0 _]) rfl tF4 rfl rfl) <| nl) ?_
                refine Unw.seq ?_
                by_cases hc21 : x_o0_7_r16 = true
                · rw [if_pos hc21] at h
                  refine Go.condT rfl (Iff.rfl.2 hc21) ?_
                  refine Go.seq ?_
                  refine Go.r0 c104 rfl rfl (sq z104 (oAsI rfl rfl) <| nl) ?_
                  refine Unw.seq ?_
                  refine Go.ret (Unw.ret ?_)
                  cases h
                  exact ⟨rfl, (fin_of rfl rF104 rfl (by kernel_rfl))⟩
                · rw [if_neg hc21] at h
                  refine Go.condF rfl (byF Iff.rfl hc21) ?_
                  refine Go.skip ?_
                  refine Unw.seq ?_
                  refine Go.seq ?_
                  refine Go.r0 c104 rfl rfl (sq z104 (oMv rfl rfl) <| sq z104 (oNl rfl rfl rfl) <| sq z104 (oFA (r' := .mp 0 0 5) rfl fF148_5 rfl rfl) <| sq z104 (oLd (cs := [.im 0 _]) rfl tF2 rfl rfl) <| sq z104 (oBi rfl rfl rfl rfl) <| sq z104 (oNl rfl rfl rfl) <| sq z104 (oFA (r' := .mp 0 0 5) rfl fF148_5 rfl rfl) <| sq z104 (oSt tF2 rfl rfl rfl (tkI tk0) rfl rfl rfl) <| nl) ?_
                  refine Unw.seq ?_
                  refine Go.seq ?_
                  obtain ⟨x127, hx127, h⟩ := bs h
                  refine Go.r1 c104 rfl rfl (st1 := mk [(0, .v false [.mp 0 0 0]), (3, iv (x_0.begins.length : Int)), (5, iv high_5_r10), (7, iv t_7_l11)] [(0, some ⟨0, 0, true, true, false, true, [⟨.imm, 0, 1, .row 4 (List.map e_S_Coat x_o0_0_l11)⟩, ⟨.imm, 0, 0, .sc (.int .i64 x_o0_1_l11)⟩, ⟨.imm, 0, 0, .sc (.int .i64 x_o0_2_l11)⟩, ⟨.imm, 0, 0, .sc (.int .i64 x_o0_3_l11)⟩, ⟨.sh, 0, 0, .row 1 (List.map eI x_o0_4_l11)⟩, ⟨.imm, 0, 0, .sc (.int .i64 (w64 (x_o0_5_l11 + 1)))⟩, ⟨.imm, 0, 0, .sc (.int .i64 x_o0_6_l11)⟩, ⟨.imm, 0, 0, .sc (.bool x_o0_7_r16)⟩]⟩)]) (by kernel_rfl) (sq z104 (oMv rfl rfl) <| sq z104 (oMv rfl rfl) <| sq z104 (oNl rfl rfl rfl) <| sq z104 (oFA (r' := .mp 0 0 4) rfl fF148_4 rfl rfl) <| sq z104 (oLd (cs := [.own 0 0 4]) rfl tF27 rfl rfl) <| sq z104 (oMv rfl rfl) <| sq z104 (oBS (es := List.map eI ([t_7_l11] : List Int)) rfl sF27 rfl (ptC rfl (fxI fx0) rfl pt0) (flat0 rfl fun _ => rfl)) <| sq z104 (oApO (en := eI) (M := ([t_7_l11] : List Int)) rfl hx127 rfl sF27 rfl rfl uF27 (.inl ⟨_, rfl⟩) rfl rfl rfl rfl (el_own rfl rfl) (flat0 rfl fun _ => rfl)) <| sq z104 (oNl rfl rfl rfl) <| sq z104 (oFA (r' := .mp 0 0 4) rfl fF148_4 rfl rfl) <| sq z104 (oSt tF27 rfl rfl rfl (tkO rfl rfl tk0) rfl rfl rfl) <| nl) ?_
                  refine Unw.seq ?_
                  refine Go.seq ?_
                  refine Go.seq ?_
                  obtain ⟨x131, hx131, h⟩ := bs h
                  refine Go.r1 c104 rfl rfl (st1 := mk [(0, .v false [.mp 0 0 0]), (3, iv (x_0.begins.length : Int)), (5, iv high_5_r10), (7, iv t_7_l11)] [(0, some ⟨0, 0, true, true, false, true, [⟨.imm, 0, 1, .row 4 (List.map e_S_Coat x_o0_0_l11)⟩, ⟨.imm, 0, 0, .sc (.int .i64 x_o0_1_l11)⟩, ⟨.imm, 0, 0, .sc (.int .i64 x_o0_2_l11)⟩, ⟨.imm, 0, 0, .sc (.int .i64 x_o0_3_l11)⟩, ⟨.sh, 0, 0, .row 1 (List.map eI x127)⟩, ⟨.imm, 0, 0, .sc (.int .i64 (w64 (x_o0_5_l11 + 1)))⟩, ⟨.imm, 0, 0, .sc (.int .i64 x_o0_6_l11)⟩, ⟨.imm, 0, 0, .sc (.bool x_o0_7_r16)⟩]⟩)]) (by kernel_rfl) (sq z104 (oMv rfl rfl) <| sq z104 (oCa (xs := [.v false [.mp 0 0 0]]) (vs := [(false, [.im 0 _])]) (v := .v false [.im 0 _]) (ih hx131) (.inl rfl) rfl kF104_146 rfl (ppPx (ob' := ⟨0, 0, true, true, false, true, [⟨.imm, 0, 1, .row 4 (List.map e_S_Coat x_o0_0_l11)⟩, ⟨.imm, 0, 0, .sc (.int .i64 x_o0_1_l11)⟩, ⟨.imm, 0, 0, .sc (.int .i64 x_o0_2_l11)⟩, ⟨.imm, 0, 0, .sc (.int .i64 x_o0_3_l11)⟩, ⟨.sh, 0, 0, .row 1 (List.map eI x127)⟩, ⟨.imm, 0, 0, .sc (.int .i64 (w64 (x_o0_5_l11 + 1)))⟩, ⟨.imm, 0, 0, .sc (.int .i64 x_o0_6_l11)⟩, ⟨.imm, 0, 0, .sc (.bool x_o0_7_r16)⟩]⟩) rfl rfl rfl (by kernel_rfl) pp0) rfl rfl (pbPx (ob' := ⟨0, 1, true, true, false, true, [⟨.imm, 1, 1, .row 4 (List.map e_S_Coat x131.2.list)⟩, ⟨.imm, 1, 0, .sc (.int .i64 x131.2.start)⟩, ⟨.imm, 1, 0, .sc (.int .i64 x131.2.open_)⟩, ⟨.imm, 1, 0, .sc (.int .i64 x131.2.end_)⟩, ⟨.sh, 1, 0, .row 1 (List.map eI x131.2.begins)⟩, ⟨.imm, 1, 0, .sc (.int .i64 x131.2.nodes)⟩, ⟨.imm, 1, 0, .sc (.int .i64 x131.2.budget)⟩, ⟨.imm, 1, 0, .sc (.bool x131.2.full)⟩]⟩) rfl rfl (by kernel_rfl) pb0) rfl rfl rfl) <| nl) ?_
                  refine Unw.seq ?_
                  by_cases hc22 : x131.1 = true
                  · rw [if_pos hc22] at h
                    refine Go.condT rfl (Iff.rfl.2 hc22) ?_
                    refine Go.seq ?_
                    refine Go.r1 c104 rfl rfl (st1 := mk [] [(0, some ⟨0, 0, true, true, false, true, [⟨.imm, 0, 1, .row 4 (List.map e_S_Coat x131.2.list)⟩, ⟨.imm, 0, 0, .sc (.int .i64 x131.2.start)⟩, ⟨.imm, 0, 0, .sc (.int .i64 x131.2.open_)⟩, ⟨.imm, 0, 0, .sc (.int .i64 x131.2.end_)⟩, ⟨.sh, 0, 0, .row 1 (List.map eI x131.2.begins)⟩, ⟨.imm, 0, 0, .sc (.int .i64 x131.2.nodes)⟩, ⟨.imm, 0, 0, .sc (.int .i64 x131.2.budget)⟩, ⟨.imm, 0, 0, .sc (.bool x131.2.full)⟩]⟩)]) (by kernel_rfl) (sq z104 (oAsI rfl rfl) <| nl) ?_
                    refine Unw.seq ?_
                    refine Go.ret (Unw.ret ?_)
                    cases h
                    exact ⟨rfl, (fin_of rfl rF104 rfl (by kernel_rfl))⟩
                  · rw [if_neg hc22] at h
                    refine Go.condF rfl (byF Iff.rfl hc22) ?_
                    refine Go.skip ?_
                    refine Unw.seq ?_
                    obtain ⟨x138, hx138, h⟩ := bs h
                    refine Go.r1 c104 rfl rfl (st1 := mk [(0, .v false [.mp 0 0 0]), (3, iv (x_0.begins.length : Int)), (5, iv high_5_r10), (7, iv t_7_l11)] [(0, some ⟨0, 0, true, true, false, true, [⟨.imm, 0, 1, .row 4 (List.map e_S_Coat x131.2.list)⟩, ⟨.imm, 0, 0, .sc (.int .i64 x131.2.start)⟩, ⟨.imm, 0, 0, .sc (.int .i64 x131.2.open_)⟩, ⟨.imm, 0, 0, .sc (.int .i64 x131.2.end_)⟩, ⟨.sh, 0, 0, .row 1 (List.map eI x131.2.begins)⟩, ⟨.imm, 0, 0, .sc (.int .i64 x131.2.nodes)⟩, ⟨.imm, 0, 0, .sc (.int .i64 x131.2.budget)⟩, ⟨.imm, 0, 0, .sc (.bool x131.2.full)⟩]⟩)]) (by kernel_rfl) (sq z104 (oMv rfl rfl) <| sq z104 (oMv rfl rfl) <| sq z104 (oNl rfl rfl rfl) <| sq z104 (oFA (r' := .mp 0 0 4) rfl fF148_4 rfl rfl) <| sq z104 (oLd (cs := [.own 0 0 4]) rfl tF27 rfl rfl) <| sq z104 (oMv rfl rfl) <| sq z104 (oSlO rfl hx138 sF27 rfl rfl rfl bn0 (bn1 rfl) rfl rfl rfl) <| sq z104 (oNl rfl rfl rfl) <| sq z104 (oFA (r' := .mp 0 0 4) rfl fF148_4 rfl rfl) <| sq z104 (oSt tF27 rfl rfl rfl (tkSM rfl rfl tk0) rfl rfl rfl) <| nl) ?_
                    refine Unw.blk ?_
                    exact K18 _ ⟨x131.2.list, x131.2.start, x131.2.open_, x131.2.end_, ((x131.2.begins.take ((x_0.begins.length : Int).toNat)).drop 0), x131.2.nodes, x131.2.budget, x131.2.full, h, (by kernel_rfl)⟩
              · intro K23
                by_cases hc24 : x_o0_5_l11 = x_o0_6_l11
                · rw [if_pos hc24] at h
                  refine Go.condT rfl (iEq.2 hc24) ?_
                  refine Go.r0 c104 rfl rfl (sq z104 (oMv rfl rfl) <| sq z104 (oNl rfl rfl rfl) <| sq z104 (oFA (r' := .mp 0 0 7) rfl fF148_7 rfl rfl) <| sq z104 (oSt tF4 rfl rfl rfl (tkI tk0) rfl rfl rfl) <| nl) ?_
                  exact K23 _ ⟨true, h, (by kernel_rfl)⟩
                · rw [if_neg hc24] at h
                  refine Go.condF rfl (byF iEq hc24) ?_
                  refine Go.skip ?_
                  exact K23 _ ⟨x_o0_7_l11, h, (by kernel_rfl)⟩
            · rw [if_neg hc19] at h
              refine Go.condT rfl (nT (byF Iff.rfl hc19)) ?_
              refine Go.exit ?_
              refine Unw.seqx ?_
              refine Unw.blkx ?_
              exact K18 _ ⟨x_o0_0_l11, x_o0_1_l11, x_o0_2_l11, x_o0_3_l11, x_o0_4_l11, x_o0_5_l11, x_o0_6_l11, x_o0_7_l11, h, (by kernel_rfl)⟩
        · rw [if_neg hc13] at h
          refine Go.condF rfl (byF iDec hc13) ?_
          refine Go.exit ?_
          refine Unw.seqx ?_
          refine Unw.nil ?_
          cases h
          exact ⟨rfl, (by kernel_rfl)⟩
      · rintro ⟨e, st⟩ hp
        rcases o with ⟨x_o0_0_e0_11, x_o0_1_e0_11, x_o0_2_e0_11, x_o0_3_e0_11, x_o0_4_e0_11, x_o0_5_e0_11, x_o0_6_e0_11, x_o0_7_e0_11⟩ | r2
        · dsimp only at h
          obtain ⟨he, hst⟩ := hp
          obtain rfl : e = .exit 0 := he
          refine Unw.blkx ?_
          refine Unw.seq ?_
          refine Go.seq ?_
          refine Go.r1 c104 rfl rfl hst (sq z104 (oAsI rfl rfl) <| nl) ?_
          refine Unw.seq ?_
          refine Go.ret (Unw.ret ?_)
          cases h
          exact Fin_ret (fin_of rfl rF104 rfl (by kernel_rfl))
        · dsimp only at h
          obtain ⟨he, hfin⟩ := hp
          obtain rfl : e = .ret := he
          cases h
          exact Unw.ret (Fin_ret hfin)
    · intro K25
      by_cases hc26 : (x_0.begins.length : Int) > 0
      · rw [if_pos hc26] at h
        refine Go.condT rfl (iDec.2 hc26) ?_
        refine Go.seq ?_
        obtain ⟨x38, hx38, h⟩ := bs h
        obtain ⟨x46, hx46, h⟩ := bs h
        refine Go.dr c104 rfl rfl rfl rfl (mk [(0, .v false [.mp 0 0 0]), (3, iv (x_0.begins.length : Int)), (6, iv (w64 (x38 + x46.Work)))] [(0, some ⟨0, 0, true, true, false, true, [⟨.imm, 0, 1, .row 4 (List.map e_S_Coat x_0.list)⟩, ⟨.imm, 0, 0, .sc (.int .i64 x_0.start)⟩, ⟨.imm, 0, 0, .sc (.int .i64 x_0.open_)⟩, ⟨.imm, 0, 0, .sc (.int .i64 x_0.end_)⟩, ⟨.sh, 0, 0, .row 1 (List.map eI x_0.begins)⟩, ⟨.imm, 0, 0, .sc (.int .i64 x_0.nodes)⟩, ⟨.imm, 0, 0, .sc (.int .i64 x_0.budget)⟩, ⟨.imm, 0, 0, .sc (.bool x_0.full)⟩]⟩)]) (sT rfl (dN z104 rfl (oMv rfl rfl)) <| sT rfl (dN z104 rfl (oNl rfl rfl rfl)) <| sT rfl (dN z104 rfl (oFA (r' := .mp 0 0 4) rfl fF148_4 rfl rfl)) <| sT rfl (dN z104 rfl (oLd (cs := [.own 0 0 4]) rfl tF27 rfl rfl)) <| sT rfl (dN z104 rfl (oMv rfl rfl)) <| sT rfl (dN z104 rfl (oBi rfl rfl rfl rfl)) <| sT rfl (dN z104 rfl (oIAO rfl hx38 sF27 rfl rfl rfl rfl)) <| sT rfl (dN z104 rfl (oLdE (cs := [.im 0 _]) rfl tF2 rfl rfl rfl (fun e => nomatch e) (rd_get hx38) rfl rfl)) <| sT rfl (dN z104 rfl (oMv rfl rfl)) <| sT rfl (dN z104 rfl (oNl rfl rfl rfl)) <| sT rfl (dN z104 rfl (oFA (r' := .mp 0 0 0) rfl fF148_0 rfl rfl)) <| sT rfl (dN z104 rfl (oLd (cs := [.im 1 _]) rfl tF24 rfl rfl)) <| sT rfl (dN z104 rfl (oMv rfl rfl)) <| sT rfl (dN z104 rfl (oBi rfl rfl rfl rfl)) <| sT rfl (dN z104 rfl (oIAI rfl hx46 sF24 rfl rfl)) <| sT rfl (dN z104 rfl (oFA (r' := .im 1 _) rfl fF128_1 rfl rfl)) <| sT rfl (dN z104 rfl (oLd (cs := [.im 1 _]) rfl tF2 rfl rfl)) <| sT rfl (dN z104 rfl (oBi rfl rfl rfl rfl)) <| sS (dN z104 rfl (oAsI rfl rfl)) trivial (sD (by kernel_rfl))) ?_
        refine Unw.seq ?_
        refine Go.seq ?_
        obtain ⟨x57, hx57, h⟩ := bs h
        refine Go.r0 c104 rfl rfl (sq z104 (oMv rfl rfl) <| sq z104 (oMv rfl rfl) <| sq z104 (oNl rfl rfl rfl) <| sq z104 (oFA (r' := .mp 0 0 0) rfl fF148_0 rfl rfl) <| sq z104 (oLd (cs := [.im 1 _]) rfl tF24 rfl rfl) <| sq z104 (oMv rfl rfl) <| sq z104 (oBi rfl rfl rfl rfl) <| sq z104 (oIAI rfl hx57 sF24 rfl rfl) <| sq z104 (oFA (r' := .im 1 _) rfl fF128_2 rfl rfl) <| sq z104 (oLd (cs := [.im 1 _]) rfl tF2 rfl rfl) <| sq z104 (oBi rfl rfl rfl rfl) <| sq z104 (oAsI rfl rfl) <| nl) ?_
        refine Unw.seq ?_
        obtain ⟨x68, hx68, h⟩ := bs h
        refine Go.r0 c104 rfl rfl (sq z104 (oMv rfl rfl) <| sq z104 (oMv rfl rfl) <| sq z104 (oNl rfl rfl rfl) <| sq z104 (oFA (r' := .mp 0 0 0) rfl fF148_0 rfl rfl) <| sq z104 (oLd (cs := [.im 1 _]) rfl tF24 rfl rfl) <| sq z104 (oMv rfl rfl) <| sq z104 (oBi rfl rfl rfl rfl) <| sq z104 (oIAI rfl hx68 sF24 rfl rfl) <| sq z104 (oFA (r' := .im 1 _) rfl fF128_3 rfl rfl) <| sq z104 (oLd (cs := [.im 1 _]) rfl tF2 rfl rfl) <| sq z104 (oBi rfl rfl rfl rfl) <| sq z104 (oAsI rfl rfl) <| nl) ?_
        exact K25 _ ⟨(w64 ((w64 (x38 + x46.Work)) + x57.Dry)), (w64 ((w64 (x38 + x46.Work)) + x68.Wait)), h, (by kernel_rfl)⟩
      · rw [if_neg hc26] at h
        refine Go.condF rfl (byF iDec hc26) ?_
        refine Go.skip ?_
        exact K25 _ ⟨x_0.start, (w64 ((w64 (x_0.start + 192)) - 1)), h, (by kernel_rfl)⟩
theorem L_spec_l22Search_run {x_0 : S_l22Search} {r : (Bool × S_l22Search)} (h : spec_l22Search_run x_0 = some r) : FL Try.prog cfg 104 [.ptr true [(.imm, .row 4 (List.map e_S_Coat x_0.list)), (.imm, .sc (.int .i64 x_0.start)), (.imm, .sc (.int .i64 x_0.open_)), (.imm, .sc (.int .i64 x_0.end_)), (.sh, .row 1 (List.map eI x_0.begins)), (.imm, .sc (.int .i64 x_0.nodes)), (.imm, .sc (.int .i64 x_0.budget)), (.imm, .sc (.bool x_0.full))]] = some ([(false, [.im 0 (.sc (.bool r.1))])], [.ptr true [(.imm, .row 4 (List.map e_S_Coat r.2.list)), (.imm, .sc (.int .i64 r.2.start)), (.imm, .sc (.int .i64 r.2.open_)), (.imm, .sc (.int .i64 r.2.end_)), (.sh, .row 1 (List.map eI r.2.begins)), (.imm, .sc (.int .i64 r.2.nodes)), (.imm, .sc (.int .i64 r.2.budget)), (.imm, .sc (.bool r.2.full))]]) := by
  unfold spec_l22Search_run at h
  obtain ⟨n, hn⟩ := fixO_iter h
  clear h
  induction n generalizing x_0 r with
  | zero => cases hn
  | succ n ihn => exact L_spec_l22Search_run_F (self := iterO _ n) (fun h => ihn h) hn
theorem L_spec_l00Own {list_0 : (List Int)} {r : (List Int)} (h : spec_l00Own list_0 = some r) : FL Try.prog cfg 105 [.im 2 false [.row 1 (List.map eI list_0)]] = some ([(false, [.ow 0 1 (List.map eI r)])], []) := by
  unfold spec_l00Own at h
  refine FL_goS (A := [(0, .v false [.im 2 (.row 1 (List.map eI list_0))])]) (B := [(0, none)]) (nt := 6) rfl rfl Try.func105 rfl rfl rfl rfl ?_
  refine Go.seq ?_
  refine Go.r0 c105 rfl rfl (sq z105 (oAsN rfl rfl eF27) <| nl) ?_
  refine Unw.seq ?_
  refine Go.seq ?_
  obtain ⟨x5, hx5, h⟩ := bs h
  refine Go.r0 c105 rfl rfl (sq z105 (oBS (es := List.map eI ([] : List Int)) rfl sF27 rfl pt0 (flat0 rfl fun _ => rfl)) <| sq z105 (oMv rfl rfl) <| sq z105 (oApO (en := eI) (M := list_0) rfl hx5 rfl sF27 rfl rfl uF27 (.inl ⟨_, rfl⟩) rfl rfl rfl rfl el_im (flat0 rfl fun _ => rfl)) <| sq z105 (oAsO rfl rfl rfl rfl rfl) <| nl) ?_
  refine Unw.seq ?_
  refine Go.ret (Unw.ret ?_)
  cases h
  exact Fin_ret (fin_of rfl rF105 rfl (by kernel_rfl))
theorem L_spec_FirstCoatPlan {list_0 : (List S_Coat)} {start_1 : Int} {open_2 : Int} {end_3 : Int} {budget_4 : Int} {r : ((List Int) × Int)} (h : spec_FirstCoatPlan list_0 start_1 open_2 end_3 budget_4 = some r) : FL Try.prog cfg 25 [.im 2 false [.row 4 (List.map e_S_Coat list_0)], .im 2 false [.sc (.int .i64 start_1)], .im 2 false [.sc (.int .i64 open_2)], .im 2 false [.sc (.int .i64 end_3)], .im 2 false [.sc (.int .i64 budget_4)]] = some ([(false, [.ow 0 1 (List.map eI r.1)]), (false, [.im 0 (.sc (.int .i64 r.2))])], []) := by
  unfold spec_FirstCoatPlan at h
  refine FL_goS (A := [(0, .v false [.im 2 (.row 4 (List.map e_S_Coat list_0))]), (1, .v false [.im 2 (.sc (.int .i64 start_1))]), (2, .v false [.im 2 (.sc (.int .i64 open_2))]), (3, .v false [.im 2 (.sc (.int .i64 end_3))]), (4, .v false [.im 2 (.sc (.int .i64 budget_4))])]) (B := [(0, none), (1, none), (2, none), (3, none), (4, none)]) (nt := 51) rfl rfl Try.func25 rfl rfl rfl rfl ?_
  refine Go.seq ?_
  refine Go.r0 c25 rfl rfl (sq z25 (oAsN rfl rfl eF27) <| sq z25 (oAsI rfl rfl) <| nl) ?_
  refine Unw.seq ?_
  refine Go.seq ?_
  obtain ⟨x18, hx18, h⟩ := bs h
  refine Go.r0 c25 rfl rfl (sq z25 (oMv rfl rfl) <| sq z25 (oMv rfl rfl) <| sq z25 (oMv rfl rfl) <| sq z25 (oMv rfl rfl) <| sq z25 (oCa (xs := [.v false [.im 2 _], .v false [.im 2 _], .v false [.im 2 _], .v false [.im 2 _]]) (vs := [(false, [.im 0 _])]) (v := .v false [.im 0 _]) (L_spec_l22Ask hx18) (.inl rfl) rfl kF101_24_2_2_2 rfl (ppC rfl (ppC rfl (ppC rfl (ppC rfl pp0)))) rfl rfl pb0 rfl rfl rfl) <| sq z25 (oAsI rfl rfl) <| nl) ?_
  refine Unw.seq ?_
  refine Go.seq ?_
  refine Go.seq ?_
  obtain ⟨t_25_m2, hm9, h⟩ := bs h
  refine Go.rX c25 rfl rfl rfl (mk [(0, .v false [.im 2 (.row 4 (List.map e_S_Coat list_0))]), (1, iv start_1), (2, iv open_2), (3, iv end_3), (4, iv budget_4), (12, iv x18), (25, bv t_25_m2)] []) ?_ ?_
  · by_cases hc1 : x18 = 0
    · rw [if_pos hc1] at hm9
      obtain ⟨x23, hx23, hm9⟩ := bs hm9
      cases hm9
      exact ⟨_, sq z25 (oMv rfl rfl) <| sq z25 (oBi rfl rfl rfl rfl) <| sq z25 (oMv rfl rfl) <| sgT z25 rfl rfl (iEq.2 hc1) (oMv rfl rfl) <| sgT z25 rfl rfl (iEq.2 hc1) (oCa (xs := [.v false [.im 2 _], .v false [.im 0 _], .v false [.im 0 _]]) (vs := [(false, [.im 0 _])]) (v := .v false [.im 0 _]) (L_spec_l00In hx23) (.inl rfl) rfl kF102_2_2_2 rfl (ppC rfl (ppC rfl (ppC rfl pp0))) rfl rfl pb0 rfl rfl rfl) <| sgT z25 rfl rfl (iEq.2 hc1) (oUn rfl rfl rfl) <| sq z25 (oPkT rfl rfl (iEq.2 hc1) rfl) <| nl, (by kernel_rfl)⟩
    · rw [if_neg hc1] at hm9
      cases hm9
      exact ⟨_, sq z25 (oMv rfl rfl) <| sq z25 (oBi rfl rfl rfl rfl) <| sq z25 (oMv rfl rfl) <| sgF rfl rfl (byF iEq hc1) rfl <| sgF rfl rfl (byF iEq hc1) rfl <| sgF rfl rfl (byF iEq hc1) rfl <| sq z25 (oPkF rfl rfl (byF iEq hc1) rfl) <| nl, (by kernel_rfl)⟩
  · refine Unw.seq ?_
    refine Go.join (fun st => ∃ code_12_r4, spec_FirstCoatPlan_k4 budget_4 end_3 list_0 open_2 start_1 code_12_r4 = some r ∧ st.norm ([0, 1, 2, 3, 4, 12], []) = mk [(0, .v false [.im 2 (.row 4 (List.map e_S_Coat list_0))]), (1, iv start_1), (2, iv open_2), (3, iv end_3), (4, iv budget_4), (12, iv code_12_r4)] []) ?_ ?_
    · rintro st ⟨code_12_r4, h, hst⟩
      unfold spec_FirstCoatPlan_k4 at h
      refine Unw.seq ?_
      refine Go.seq ?_
      refine Go.seq ?_
      refine Go.r1 c25 rfl rfl hst (sq z25 (oMv rfl rfl) <| sq z25 (oBi rfl rfl rfl rfl) <| nl) ?_
      refine Unw.seq ?_
      by_cases hc3 : code_12_r4 ≠ 0
      · rw [if_pos hc3] at h
        refine Go.condT rfl (iNe.2 hc3) ?_
        refine Go.seq ?_
        refine Go.r0 c25 rfl rfl (sq z25 (oMv rfl rfl) <| sq z25 (oAsN rfl rfl eF27) <| sq z25 (oAsI rfl rfl) <| nl) ?_
        refine Unw.seq ?_
        refine Go.ret (Unw.ret ?_)
        cases h
        exact Fin_ret (fin_of rfl rF25 rfl (by kernel_rfl))
      · rw [if_neg hc3] at h
        refine Go.condF rfl (byF iNe hc3) ?_
        refine Go.skip ?_
        refine Unw.seq ?_
        refine Go.seq ?_
        refine Go.seq ?_
        obtain ⟨x32, hx32, h⟩ := bs h
        refine Go.r0 c25 rfl rfl (sq z25 (oMv rfl rfl) <| sq z25 (oMv rfl rfl) <| sq z25 (oMv rfl rfl) <| sq z25 (oCa (xs := [.v false [.im 2 _], .v false [.im 0 _], .v false [.im 0 _]]) (vs := [(false, [.im 0 _])]) (v := .v false [.im 0 _]) (L_spec_l22Long hx32) (.inl rfl) rfl kF103_24_2_2 rfl (ppC rfl (ppC rfl (ppC rfl pp0))) rfl rfl pb0 rfl rfl rfl) <| nl) ?_
        refine Unw.seq ?_
        by_cases hc4 : x32 = true
        · rw [if_pos hc4] at h
          refine Go.condT rfl (Iff.rfl.2 hc4) ?_
          refine Go.seq ?_
          refine Go.r0 c25 rfl rfl (sq z25 (oAsN rfl rfl eF27) <| sq z25 (oAsI rfl rfl) <| nl) ?_
          refine Unw.seq ?_
          refine Go.ret (Unw.ret ?_)
          cases h
          exact Fin_ret (fin_of rfl rF25 rfl (by kernel_rfl))
        · rw [if_neg hc4] at h
          refine Go.condF rfl (byF Iff.rfl hc4) ?_
          refine Go.skip ?_
          refine Unw.seq ?_
          refine Go.seq ?_
          refine Go.r0 c25 rfl rfl (sq z25 (oMv rfl rfl) <| sq z25 (oMv rfl rfl) <| sq z25 (oMv rfl rfl) <| sq z25 (oMv rfl rfl) <| sq z25 (oMv rfl rfl) <| sq z25 (oBu (cs := [.im 2 _, .im 0 _, .im 0 _, .im 0 _, .nil, .im 0 _, .im 0 _, .im 0 _]) rfl bF148 rfl) <| sq z25 (oBx rfl tF148 rfl (tkI (tkI (tkI (tkI (tkN (tkI (tkI (tkI tk0))))))))) <| sq z25 (oAsP rfl rfl) <| nl) ?_
          refine Unw.seq ?_
          refine Go.seq ?_
          refine Go.seq ?_
          obtain ⟨x41, hx41, h⟩ := bs h
          refine Go.r1 c25 rfl rfl (st1 := mk [(13, .v false [.mp 39 0 0])] [(39, some ⟨0, 0, false, true, false, true, [⟨.imm, 0, 2, .row 4 (List.map e_S_Coat list_0)⟩, ⟨.imm, 0, 0, .sc (.int .i64 start_1)⟩, ⟨.imm, 0, 0, .sc (.int .i64 open_2)⟩, ⟨.imm, 0, 0, .sc (.int .i64 end_3)⟩, ⟨.sh, 0, 0, .row 1 (List.map eI ([] : List Int))⟩, ⟨.imm, 0, 0, .sc (.int .i64 0)⟩, ⟨.imm, 0, 0, .sc (.int .i64 budget_4)⟩, ⟨.imm, 0, 0, .sc (.bool false)⟩]⟩)]) (by kernel_rfl) (sq z25 (oMv rfl rfl) <| sq z25 (oCa (xs := [.v false [.mp 39 0 0]]) (vs := [(false, [.im 0 _])]) (v := .v false [.im 0 _]) (L_spec_l22Search_run hx41) (.inl rfl) rfl kF104_146 rfl (ppPx (ob' := ⟨0, 0, false, true, false, true, [⟨.imm, 0, 2, .row 4 (List.map e_S_Coat list_0)⟩, ⟨.imm, 0, 0, .sc (.int .i64 start_1)⟩, ⟨.imm, 0, 0, .sc (.int .i64 open_2)⟩, ⟨.imm, 0, 0, .sc (.int .i64 end_3)⟩, ⟨.sh, 0, 0, .row 1 (List.map eI ([] : List Int))⟩, ⟨.imm, 0, 0, .sc (.int .i64 0)⟩, ⟨.imm, 0, 0, .sc (.int .i64 budget_4)⟩, ⟨.imm, 0, 0, .sc (.bool false)⟩]⟩) rfl rfl rfl (by kernel_rfl) pp0) rfl rfl (pbPx (ob' := ⟨0, 1, false, true, false, true, [⟨.imm, 1, 2, .row 4 (List.map e_S_Coat x41.2.list)⟩, ⟨.imm, 1, 0, .sc (.int .i64 x41.2.start)⟩, ⟨.imm, 1, 0, .sc (.int .i64 x41.2.open_)⟩, ⟨.imm, 1, 0, .sc (.int .i64 x41.2.end_)⟩, ⟨.sh, 1, 0, .row 1 (List.map eI x41.2.begins)⟩, ⟨.imm, 1, 0, .sc (.int .i64 x41.2.nodes)⟩, ⟨.imm, 1, 0, .sc (.int .i64 x41.2.budget)⟩, ⟨.imm, 1, 0, .sc (.bool x41.2.full)⟩]⟩) rfl rfl (by kernel_rfl) pb0) rfl rfl rfl) <| nl) ?_
          refine Unw.seq ?_
          by_cases hc5 : x41.1 = true
          · rw [if_pos hc5] at h
            refine Go.condT rfl (Iff.rfl.2 hc5) ?_
            refine Go.seq ?_
            obtain ⟨x46, hx46, h⟩ := bs h
            refine Go.r1 c25 rfl rfl (st1 := mk [(13, .v false [.mp 39 0 0])] [(39, some ⟨0, 0, false, true, false, true, [⟨.imm, 0, 2, .row 4 (List.map e_S_Coat x41.2.list)⟩, ⟨.imm, 0, 0, .sc (.int .i64 x41.2.start)⟩, ⟨.imm, 0, 0, .sc (.int .i64 x41.2.open_)⟩, ⟨.imm, 0, 0, .sc (.int .i64 x41.2.end_)⟩, ⟨.sh, 0, 0, .row 1 (List.map eI x41.2.begins)⟩, ⟨.imm, 0, 0, .sc (.int .i64 x41.2.nodes)⟩, ⟨.imm, 0, 0, .sc (.int .i64 x41.2.budget)⟩, ⟨.imm, 0, 0, .sc (.bool x41.2.full)⟩]⟩)]) (by kernel_rfl) (sq z25 (oMv rfl rfl) <| sq z25 (oNl rfl rfl rfl) <| sq z25 (oFA (r' := .mp 39 0 4) rfl fF148_4 rfl rfl) <| sq z25 (oLd (cs := [.own 39 0 4]) rfl tF27 rfl rfl) <| sq z25 (oCr (xs := [.v false [.own 39 0 4]]) (vs := [(false, [.own 46 0 0])]) (v := .v false [.own 46 0 0]) (c := ⟨.sh, 0, _⟩) (cs := []) (L_spec_l00Own hx46) (.inl rfl) rfl kF105_27 rfl (ppC rfl pp0) rfl rfl pb0 rfl rfl rfl) <| sq z25 (oAsO rfl rfl rfl rfl rfl) <| sq z25 (oAsI rfl rfl) <| nl) ?_
            refine Unw.seq ?_
            refine Go.ret (Unw.ret ?_)
            cases h
            exact Fin_ret (fin_of rfl rF25 rfl (by kernel_rfl))
          · rw [if_neg hc5] at h
            refine Go.condF rfl (byF Iff.rfl hc5) ?_
            refine Go.skip ?_
            refine Unw.seq ?_
            refine Go.seq ?_
            refine Go.seq ?_
            refine Go.r1 c25 rfl rfl (st1 := mk [(13, .v false [.mp 39 0 0])] [(39, some ⟨0, 0, false, true, false, true, [⟨.imm, 0, 2, .row 4 (List.map e_S_Coat x41.2.list)⟩, ⟨.imm, 0, 0, .sc (.int .i64 x41.2.start)⟩, ⟨.imm, 0, 0, .sc (.int .i64 x41.2.open_)⟩, ⟨.imm, 0, 0, .sc (.int .i64 x41.2.end_)⟩, ⟨.sh, 0, 0, .row 1 (List.map eI x41.2.begins)⟩, ⟨.imm, 0, 0, .sc (.int .i64 x41.2.nodes)⟩, ⟨.imm, 0, 0, .sc (.int .i64 x41.2.budget)⟩, ⟨.imm, 0, 0, .sc (.bool x41.2.full)⟩]⟩)]) (by kernel_rfl) (sq z25 (oMv rfl rfl) <| sq z25 (oNl rfl rfl rfl) <| sq z25 (oFA (r' := .mp 39 0 7) rfl fF148_7 rfl rfl) <| sq z25 (oLd (cs := [.im 0 _]) rfl tF4 rfl rfl) <| nl) ?_
            refine Unw.seq ?_
            by_cases hc6 : x41.2.full = true
            · rw [if_pos hc6] at h
              refine Go.condT rfl (Iff.rfl.2 hc6) ?_
              refine Go.seq ?_
              refine Go.r0 c25 rfl rfl (sq z25 (oAsN rfl rfl eF27) <| sq z25 (oAsI rfl rfl) <| nl) ?_
              refine Unw.seq ?_
              refine Go.ret (Unw.ret ?_)
              cases h
              exact Fin_ret (fin_of rfl rF25 rfl (by kernel_rfl))
            · rw [if_neg hc6] at h
              refine Go.condF rfl (byF Iff.rfl hc6) ?_
              refine Go.skip ?_
              refine Unw.seq ?_
              refine Go.seq ?_
              refine Go.r0 c25 rfl rfl (sq z25 (oAsN rfl rfl eF27) <| sq z25 (oAsI rfl rfl) <| nl) ?_
              refine Unw.seq ?_
              refine Go.ret (Unw.ret ?_)
              cases h
              exact Fin_ret (fin_of rfl rF25 rfl (by kernel_rfl))
    · intro K7
      by_cases hc8 : t_25_m2 = true
      · rw [if_pos hc8] at h
        refine Go.condT rfl (Iff.rfl.2 hc8) ?_
        refine Go.r0 c25 rfl rfl (sq z25 (oAsI rfl rfl) <| nl) ?_
        exact K7 _ ⟨2, h, (by kernel_rfl)⟩
      · rw [if_neg hc8] at h
        refine Go.condF rfl (byF Iff.rfl hc8) ?_
        refine Go.skip ?_
        exact K7 _ ⟨x18, h, (by kernel_rfl)⟩
theorem L_impl_IsName {s_0 : ByteArray} {r : Bool} (h : impl_IsName s_0 = some r) : FL Try.prog cfg 250 [.im 2 false [.sc (.string s_0)]] = some ([(false, [.im 0 (.sc (.bool r))])], []) := by
  unfold impl_IsName at h
  refine FL_goS (A := [(0, .v false [.im 2 (.sc (.string s_0))])]) (B := [(0, none)]) (nt := 50) rfl rfl Try.func250 rfl rfl rfl rfl ?_
  refine Go.seq ?_
  refine Go.r0 c250 rfl rfl (sq z250 (oAsI rfl rfl) <| nl) ?_
  refine Unw.seq ?_
  refine Go.seq ?_
  refine Go.seq ?_
  obtain ⟨t_21_m1, hm26, h⟩ := bs h
  refine Go.rX c250 rfl rfl rfl (mk [(0, sv s_0), (21, bv t_21_m1)] []) ?_ ?_
  · by_cases hc1 : (s_0.size : Int) < 1
    · rw [if_pos hc1] at hm26
      cases hm26
      exact ⟨_, sq z250 (oMv rfl rfl) <| sq z250 (oLnS rfl rfl uF9 rfl) <| sq z250 (oBi rfl rfl rfl rfl) <| sq z250 (oMv rfl rfl) <| sgF rfl rfl (iDec.2 hc1) rfl <| sgF rfl rfl (iDec.2 hc1) rfl <| sgF rfl rfl (iDec.2 hc1) rfl <| sq z250 (oPkT rfl rfl (iDec.2 hc1) rfl) <| sq z250 (oMv rfl rfl) <| sgF rfl rfl rfl rfl <| sgF rfl rfl rfl rfl <| sgF rfl rfl rfl rfl <| sq z250 (oPkT rfl rfl rfl rfl) <| sq z250 (oMv rfl rfl) <| sgF rfl rfl rfl rfl <| sgF rfl rfl rfl rfl <| sgF rfl rfl rfl rfl <| sq z250 (oPkT rfl rfl rfl rfl) <| nl, (by kernel_rfl)⟩
    · rw [if_neg hc1] at hm26
      by_cases hc2 : (s_0.size : Int) > 10
      · rw [if_pos hc2] at hm26
        cases hm26
        exact ⟨_, sq z250 (oMv rfl rfl) <| sq z250 (oLnS rfl rfl uF9 rfl) <| sq z250 (oBi rfl rfl rfl rfl) <| sq z250 (oMv rfl rfl) <| sgT z250 rfl rfl (byF iDec hc1) (oMv rfl rfl) <| sgT z250 rfl rfl (byF iDec hc1) (oLnS rfl rfl uF9 rfl) <| sgT z250 rfl rfl (byF iDec hc1) (oBi rfl rfl rfl rfl) <| sq z250 (oPkF rfl rfl (byF iDec hc1) rfl) <| sq z250 (oMv rfl rfl) <| sgF rfl rfl (iDec.2 hc2) rfl <| sgF rfl rfl (iDec.2 hc2) rfl <| sgF rfl rfl (iDec.2 hc2) rfl <| sq z250 (oPkT rfl rfl (iDec.2 hc2) rfl) <| sq z250 (oMv rfl rfl) <| sgF rfl rfl rfl rfl <| sgF rfl rfl rfl rfl <| sgF rfl rfl rfl rfl <| sq z250 (oPkT rfl rfl rfl rfl) <| nl, (by kernel_rfl)⟩
      · rw [if_neg hc2] at hm26
        obtain ⟨x14, hx14, hm26⟩ := bs hm26
        by_cases hc3 : x14 < 97
        · rw [if_pos hc3] at hm26
          cases hm26
          exact ⟨_, sq z250 (oMv rfl rfl) <| sq z250 (oLnS rfl rfl uF9 rfl) <| sq z250 (oBi rfl rfl rfl rfl) <| sq z250 (oMv rfl rfl) <| sgT z250 rfl rfl (byF iDec hc1) (oMv rfl rfl) <| sgT z250 rfl rfl (byF iDec hc1) (oLnS rfl rfl uF9 rfl) <| sgT z250 rfl rfl (byF iDec hc1) (oBi rfl rfl rfl rfl) <| sq z250 (oPkF rfl rfl (byF iDec hc1) rfl) <| sq z250 (oMv rfl rfl) <| sgT z250 rfl rfl (byF iDec hc2) (oMv rfl rfl) <| sgT z250 rfl rfl (byF iDec hc2) (oIx rfl hx14 uF9 rfl rfl) <| sgT z250 rfl rfl (byF iDec hc2) (oBi rfl rfl rfl rfl) <| sq z250 (oPkF rfl rfl (byF iDec hc2) rfl) <| sq z250 (oMv rfl rfl) <| sgF rfl rfl (iDec.2 hc3) rfl <| sgF rfl rfl (iDec.2 hc3) rfl <| sgF rfl rfl (iDec.2 hc3) rfl <| sq z250 (oPkT rfl rfl (iDec.2 hc3) rfl) <| nl, (by kernel_rfl)⟩
        · rw [if_neg hc3] at hm26
          obtain ⟨x19, hx19, hm26⟩ := bs hm26
          cases hm26
          exact ⟨_, sq z250 (oMv rfl rfl) <| sq z250 (oLnS rfl rfl uF9 rfl) <| sq z250 (oBi rfl rfl rfl rfl) <| sq z250 (oMv rfl rfl) <| sgT z250 rfl rfl (byF iDec hc1) (oMv rfl rfl) <| sgT z250 rfl rfl (byF iDec hc1) (oLnS rfl rfl uF9 rfl) <| sgT z250 rfl rfl (byF iDec hc1) (oBi rfl rfl rfl rfl) <| sq z250 (oPkF rfl rfl (byF iDec hc1) rfl) <| sq z250 (oMv rfl rfl) <| sgT z250 rfl rfl (byF iDec hc2) (oMv rfl rfl) <| sgT z250 rfl rfl (byF iDec hc2) (oIx rfl hx14 uF9 rfl rfl) <| sgT z250 rfl rfl (byF iDec hc2) (oBi rfl rfl rfl rfl) <| sq z250 (oPkF rfl rfl (byF iDec hc2) rfl) <| sq z250 (oMv rfl rfl) <| sgT z250 rfl rfl (byF iDec hc3) (oMv rfl rfl) <| sgT z250 rfl rfl (byF iDec hc3) (oIx rfl hx19 uF9 rfl rfl) <| sgT z250 rfl rfl (byF iDec hc3) (oBi rfl rfl rfl rfl) <| sq z250 (oPkF rfl rfl (byF iDec hc3) rfl) <| nl, (by kernel_rfl)⟩
  · refine Unw.seq ?_
    by_cases hc4 : t_21_m1 = true
    · rw [if_pos hc4] at h
      refine Go.condT rfl (Iff.rfl.2 hc4) ?_
      refine Go.seq ?_
      refine Go.r0 c250 rfl rfl (sq z250 (oAsI rfl rfl) <| nl) ?_
      refine Unw.seq ?_
      refine Go.ret (Unw.ret ?_)
      cases h
      exact Fin_ret (fin_of rfl rF250 rfl (by kernel_rfl))
    · rw [if_neg hc4] at h
      refine Go.condF rfl (byF Iff.rfl hc4) ?_
      refine Go.skip ?_
      refine Unw.seq ?_
      refine Go.seq ?_
      refine Go.seq ?_
      refine Go.r0 c250 rfl rfl (sq z250 (oAsI rfl rfl) <| nl) ?_
      refine Unw.seq ?_
      refine Go.block ?_
      obtain ⟨o, hl, h⟩ := bs h
      refine Go.lp c250 rfl _ (fun (i_3_l4 : Int) => mk [(0, sv s_0), (3, iv i_3_l4)] []) (fun (o : (Unit ⊕ Bool)) (p : Ex × St) => match o with | (.inl _) => p.1 = .exit 0 ∧ p.2.norm ([], []) = mk [] [] | (.inr r2) => p.1 = .ret ∧ fin Try.prog cfg 250 Try.f250 [.im 2 false [.sc (.string s_0)]] p.2 = some ([(false, [.im 0 (.sc (.bool r2))])], [])) hl (by kernel_rfl) ?_ ?_ ?_
      · intro o p hp e
        rcases o with u | r2 <;> exact nomatch (hp.1.symm.trans e)
      · rintro i_3_l4 o h
        unfold impl_IsName_l4 at h
        refine Go.seq ?_
        refine Go.seq ?_
        refine Go.r0 c250 rfl rfl (sq z250 (oMv rfl rfl) <| sq z250 (oMv rfl rfl) <| sq z250 (oLnS rfl rfl uF9 rfl) <| sq z250 (oBi rfl rfl rfl rfl) <| nl) ?_
        refine Unw.seq ?_
        by_cases hc19 : i_3_l4 < (s_0.size : Int)
        · rw [if_pos hc19] at h
          refine Go.condT rfl (iDec.2 hc19) ?_
          refine Go.skip ?_
          refine Unw.seq ?_
          refine Go.seq ?_
          refine Go.block ?_
          refine Go.seq ?_
          obtain ⟨x30, hx30, h⟩ := bs h
          obtain ⟨t_49_m6, hm25, h⟩ := bs h
          refine Go.rX c250 rfl rfl rfl (mk [(0, sv s_0), (3, iv i_3_l4), (49, bv t_49_m6)] []) ?_ ?_
          · by_cases hc20 : x30 < 97
            · rw [if_pos hc20] at hm25
              obtain ⟨x41, hx41, hm25⟩ := bs hm25
              by_cases hc21 : x41 < 48
              · rw [if_pos hc21] at hm25
                cases hm25
                exact ⟨_, sq z250 (oMv rfl rfl) <| sq z250 (oMv rfl rfl) <| sq z250 (oIx rfl hx30 uF9 rfl rfl) <| sq z250 (oBi rfl rfl rfl rfl) <| sq z250 (oMv rfl rfl) <| sgF rfl rfl (iDec.2 hc20) rfl <| sgF rfl rfl (iDec.2 hc20) rfl <| sgF rfl rfl (iDec.2 hc20) rfl <| sgF rfl rfl (iDec.2 hc20) rfl <| sq z250 (oPkT rfl rfl (iDec.2 hc20) rfl) <| sq z250 (oMv rfl rfl) <| sgT z250 rfl rfl rfl (oMv rfl rfl) <| sgT z250 rfl rfl rfl (oMv rfl rfl) <| sgT z250 rfl rfl rfl (oIx rfl hx41 uF9 rfl rfl) <| sgT z250 rfl rfl rfl (oBi rfl rfl rfl rfl) <| sgT z250 rfl rfl rfl (oMv rfl rfl) <| sgF rfl rfl (iDec.2 hc21) rfl <| sgF rfl rfl (iDec.2 hc21) rfl <| sgF rfl rfl (iDec.2 hc21) rfl <| sgF rfl rfl (iDec.2 hc21) rfl <| sgT z250 rfl rfl rfl (oPkT rfl rfl (iDec.2 hc21) rfl) <| sq z250 (oPkT rfl rfl rfl rfl) <| nl, (by kernel_rfl)⟩
              · rw [if_neg hc21] at hm25
                obtain ⟨x46, hx46, hm25⟩ := bs hm25
                cases hm25
                exact ⟨_, sq z250 (oMv rfl rfl) <| sq z250 (oMv rfl rfl) <| sq z250 (oIx rfl hx30 uF9 rfl rfl) <| sq z250 (oBi rfl rfl rfl rfl) <| sq z250 (oMv rfl rfl) <| sgF rfl rfl (iDec.2 hc20) rfl <| sgF rfl rfl (iDec.2 hc20) rfl <| sgF rfl rfl (iDec.2 hc20) rfl <| sgF rfl rfl (iDec.2 hc20) rfl <| sq z250 (oPkT rfl rfl (iDec.2 hc20) rfl) <| sq z250 (oMv rfl rfl) <| sgT z250 rfl rfl rfl (oMv rfl rfl) <| sgT z250 rfl rfl rfl (oMv rfl rfl) <| sgT z250 rfl rfl rfl (oIx rfl hx41 uF9 rfl rfl) <| sgT z250 rfl rfl rfl (oBi rfl rfl rfl rfl) <| sgT z250 rfl rfl rfl (oMv rfl rfl) <| sgT z250 rfl rfl (byF iDec hc21) (oMv rfl rfl) <| sgT z250 rfl rfl (byF iDec hc21) (oMv rfl rfl) <| sgT z250 rfl rfl (byF iDec hc21) (oIx rfl hx46 uF9 rfl rfl) <| sgT z250 rfl rfl (byF iDec hc21) (oBi rfl rfl rfl rfl) <| sgT z250 rfl rfl rfl (oPkF rfl rfl (byF iDec hc21) rfl) <| sq z250 (oPkT rfl rfl rfl rfl) <| nl, (by kernel_rfl)⟩
            · rw [if_neg hc20] at hm25
              obtain ⟨x35, hx35, hm25⟩ := bs hm25
              by_cases hc22 : x35 > 122
              · rw [if_pos hc22] at hm25
                obtain ⟨x41, hx41, hm25⟩ := bs hm25
                by_cases hc23 : x41 < 48
                · rw [if_pos hc23] at hm25
                  cases hm25
                  exact ⟨_, sq z250 (oMv rfl rfl) <| sq z250 (oMv rfl rfl) <| sq z250 (oIx rfl hx30 uF9 rfl rfl) <| sq z250 (oBi rfl rfl rfl rfl) <| sq z250 (oMv rfl rfl) <| sgT z250 rfl rfl (byF iDec hc20) (oMv rfl rfl) <| sgT z250 rfl rfl (byF iDec hc20) (oMv rfl rfl) <| sgT z250 rfl rfl (byF iDec hc20) (oIx rfl hx35 uF9 rfl rfl) <| sgT z250 rfl rfl (byF iDec hc20) (oBi rfl rfl rfl rfl) <| sq z250 (oPkF rfl rfl (byF iDec hc20) rfl) <| sq z250 (oMv rfl rfl) <| sgT z250 rfl rfl (iDec.2 hc22) (oMv rfl rfl) <| sgT z250 rfl rfl (iDec.2 hc22) (oMv rfl rfl) <| sgT z250 rfl rfl (iDec.2 hc22) (oIx rfl hx41 uF9 rfl rfl) <| sgT z250 rfl rfl (iDec.2 hc22) (oBi rfl rfl rfl rfl) <| sgT z250 rfl rfl (iDec.2 hc22) (oMv rfl rfl) <| sgF rfl rfl (iDec.2 hc23) rfl <| sgF rfl rfl (iDec.2 hc23) rfl <| sgF rfl rfl (iDec.2 hc23) rfl <| sgF rfl rfl (iDec.2 hc23) rfl <| sgT z250 rfl rfl (iDec.2 hc22) (oPkT rfl rfl (iDec.2 hc23) rfl) <| sq z250 (oPkT rfl rfl (iDec.2 hc22) rfl) <| nl, (by kernel_rfl)⟩
                · rw [if_neg hc23] at hm25
                  obtain ⟨x46, hx46, hm25⟩ := bs hm25
                  cases hm25
                  exact ⟨_, sq z250 (oMv rfl rfl) <| sq z250 (oMv rfl rfl) <| sq z250 (oIx rfl hx30 uF9 rfl rfl) <| sq z250 (oBi rfl rfl rfl rfl) <| sq z250 (oMv rfl rfl) <| sgT z250 rfl rfl (byF iDec hc20) (oMv rfl rfl) <| sgT z250 rfl rfl (byF iDec hc20) (oMv rfl rfl) <| sgT z250 rfl rfl (byF iDec hc20) (oIx rfl hx35 uF9 rfl rfl) <| sgT z250 rfl rfl (byF iDec hc20) (oBi rfl rfl rfl rfl) <| sq z250 (oPkF rfl rfl (byF iDec hc20) rfl) <| sq z250 (oMv rfl rfl) <| sgT z250 rfl rfl (iDec.2 hc22) (oMv rfl rfl) <| sgT z250 rfl rfl (iDec.2 hc22) (oMv rfl rfl) <| sgT z250 rfl rfl (iDec.2 hc22) (oIx rfl hx41 uF9 rfl rfl) <| sgT z250 rfl rfl (iDec.2 hc22) (oBi rfl rfl rfl rfl) <| sgT z250 rfl rfl (iDec.2 hc22) (oMv rfl rfl) <| sgT z250 rfl rfl (byF iDec hc23) (oMv rfl rfl) <| sgT z250 rfl rfl (byF iDec hc23) (oMv rfl rfl) <| sgT z250 rfl rfl (byF iDec hc23) (oIx rfl hx46 uF9 rfl rfl) <| sgT z250 rfl rfl (byF iDec hc23) (oBi rfl rfl rfl rfl) <| sgT z250 rfl rfl (iDec.2 hc22) (oPkF rfl rfl (byF iDec hc23) rfl) <| sq z250 (oPkT rfl rfl (iDec.2 hc22) rfl) <| nl, (by kernel_rfl)⟩
              · rw [if_neg hc22] at hm25
                cases hm25
                exact ⟨_, sq z250 (oMv rfl rfl) <| sq z250 (oMv rfl rfl) <| sq z250 (oIx rfl hx30 uF9 rfl rfl) <| sq z250 (oBi rfl rfl rfl rfl) <| sq z250 (oMv rfl rfl) <| sgT z250 rfl rfl (byF iDec hc20) (oMv rfl rfl) <| sgT z250 rfl rfl (byF iDec hc20) (oMv rfl rfl) <| sgT z250 rfl rfl (byF iDec hc20) (oIx rfl hx35 uF9 rfl rfl) <| sgT z250 rfl rfl (byF iDec hc20) (oBi rfl rfl rfl rfl) <| sq z250 (oPkF rfl rfl (byF iDec hc20) rfl) <| sq z250 (oMv rfl rfl) <| sgF rfl rfl (byF iDec hc22) rfl <| sgF rfl rfl (byF iDec hc22) rfl <| sgF rfl rfl (byF iDec hc22) rfl <| sgF rfl rfl (byF iDec hc22) rfl <| sgF rfl rfl (byF iDec hc22) rfl <| sgU rfl rfl rfl <| sgU rfl rfl rfl <| sgU rfl rfl rfl <| sgU rfl rfl rfl <| sgF rfl rfl (byF iDec hc22) rfl <| sq z250 (oPkF rfl rfl (byF iDec hc22) rfl) <| nl, (by kernel_rfl)⟩
          · refine Unw.seq ?_
            by_cases hc24 : t_49_m6 = true
            · rw [if_pos hc24] at h
              refine Go.condT rfl (Iff.rfl.2 hc24) ?_
              refine Go.seq ?_
              refine Go.r0 c250 rfl rfl (sq z250 (oAsI rfl rfl) <| nl) ?_
              refine Unw.seq ?_
              refine Go.ret (Unw.ret ?_)
              cases h
              exact ⟨rfl, (fin_of rfl rF250 rfl (by kernel_rfl))⟩
            · rw [if_neg hc24] at h
              refine Go.condF rfl (byF Iff.rfl hc24) ?_
              refine Go.skip ?_
              refine Unw.blk ?_
              refine Unw.seq ?_
              refine Go.r0 c250 rfl rfl (sq z250 (oMv rfl rfl) <| sq z250 (oBi rfl rfl rfl rfl) <| sq z250 (oAsI rfl rfl) <| nl) ?_
              refine Unw.nil ?_
              cases h
              exact ⟨rfl, (by kernel_rfl)⟩
        · rw [if_neg hc19] at h
          refine Go.condF rfl (byF iDec hc19) ?_
          refine Go.exit ?_
          refine Unw.seqx ?_
          refine Unw.nil ?_
          cases h
          exact ⟨rfl, (by kernel_rfl)⟩
      · rintro ⟨e, st⟩ hp
        rcases o with u | r2
        · dsimp only at h
          obtain ⟨he, hst⟩ := hp
          obtain rfl : e = .exit 0 := he
          refine Unw.blkx ?_
          refine Unw.seq ?_
          refine Go.seq ?_
          refine Go.r1 c250 rfl rfl hst (sq z250 (oAsI rfl rfl) <| nl) ?_
          refine Unw.seq ?_
          refine Go.ret (Unw.ret ?_)
          cases h
          exact Fin_ret (fin_of rfl rF250 rfl (by kernel_rfl))
        · dsimp only at h
          obtain ⟨he, hfin⟩ := hp
          obtain rfl : e = .ret := he
          cases h
          exact Unw.ret (Fin_ret hfin)
theorem L_impl_within {n_0 : Int} {low_1 : Int} {high_2 : Int} {r : Bool} (h : impl_within n_0 low_1 high_2 = some r) : FL Try.prog cfg 92 [.im 2 false [.sc (.int .i64 n_0)], .im 2 false [.sc (.int .i64 low_1)], .im 2 false [.sc (.int .i64 high_2)]] = some ([(false, [.im 0 (.sc (.bool r))])], []) := by
  unfold impl_within at h
  refine FL_goS (A := [(0, .v false [.im 2 (.sc (.int .i64 n_0))]), (1, .v false [.im 2 (.sc (.int .i64 low_1))]), (2, .v false [.im 2 (.sc (.int .i64 high_2))])]) (B := [(0, none), (1, none), (2, none)]) (nt := 15) rfl rfl Try.func92 rfl rfl rfl rfl ?_
  refine Go.seq ?_
  refine Go.r0 c92 rfl rfl (sq z92 (oAsI rfl rfl) <| nl) ?_
  refine Unw.seq ?_
  refine Go.seq ?_
  refine Go.rX c92 rfl rfl rfl (mk [(6, bv ((decide (n_0 ≥ low_1)) && (decide (n_0 ≤ high_2))))] []) ?_ ?_
  · by_cases hc1 : n_0 ≥ low_1
    · exact ⟨_, sq z92 (oMv rfl rfl) <| sq z92 (oMv rfl rfl) <| sq z92 (oBi rfl rfl rfl rfl) <| sq z92 (oMv rfl rfl) <| sgT z92 rfl rfl (iDec.2 hc1) (oMv rfl rfl) <| sgT z92 rfl rfl (iDec.2 hc1) (oMv rfl rfl) <| sgT z92 rfl rfl (iDec.2 hc1) (oBi rfl rfl rfl rfl) <| sq z92 (oPkT rfl rfl (iDec.2 hc1) rfl) <| sq z92 (oAsI rfl rfl) <| nl, (Eq.trans (b := (fun t_6_m1 : Bool => mk [(6, bv t_6_m1)] []) (decide (n_0 ≤ high_2))) (by kernel_rfl) (congrArg (fun t_6_m1 : Bool => mk [(6, bv t_6_m1)] []) (by first | rfl | simp [(iDec.2 hc1)])))⟩
    · exact ⟨_, sq z92 (oMv rfl rfl) <| sq z92 (oMv rfl rfl) <| sq z92 (oBi rfl rfl rfl rfl) <| sq z92 (oMv rfl rfl) <| sgF rfl rfl (byF iDec hc1) rfl <| sgF rfl rfl (byF iDec hc1) rfl <| sgF rfl rfl (byF iDec hc1) rfl <| sq z92 (oPkF rfl rfl (byF iDec hc1) rfl) <| sq z92 (oAsI rfl rfl) <| nl, (Eq.trans (b := (fun t_6_m1 : Bool => mk [(6, bv t_6_m1)] []) false) (by kernel_rfl) (congrArg (fun t_6_m1 : Bool => mk [(6, bv t_6_m1)] []) (by first | rfl | simp [(byF iDec hc1)])))⟩
  · refine Unw.seq ?_
    refine Go.ret (Unw.ret ?_)
    cases h
    exact Fin_ret (fin_of rfl rF92 rfl (by kernel_rfl))
theorem L_impl_ValidCoat {c_0 : S_Coat} {r : Bool} (h : impl_ValidCoat c_0 = some r) : FL Try.prog cfg 189 [.im 2 true [.sc (.string c_0.Name), .sc (.int .i64 c_0.Work), .sc (.int .i64 c_0.Dry), .sc (.int .i64 c_0.Wait)]] = some ([(false, [.im 0 (.sc (.bool r))])], []) := by
  unfold impl_ValidCoat at h
  refine FL_goS (A := [(0, .v true [.im 2 (.sc (.string c_0.Name)), .im 2 (.sc (.int .i64 c_0.Work)), .im 2 (.sc (.int .i64 c_0.Dry)), .im 2 (.sc (.int .i64 c_0.Wait))])]) (B := [(0, none)]) (nt := 23) rfl rfl Try.func189 rfl rfl rfl rfl ?_
  refine Go.seq ?_
  refine Go.r0 c189 rfl rfl (sq z189 (oBx rfl tF128 rfl (tkI (tkI (tkI (tkI tk0))))) <| sq z189 (oAsI rfl rfl) <| nl) ?_
  refine Unw.seq ?_
  refine Go.seq ?_
  obtain ⟨x5, hx5, h⟩ := bs h
  obtain ⟨t_2_m1, hm4, h⟩ := bs h
  refine Go.rX c189 rfl rfl rfl (mk [(2, bv t_2_m1)] []) ?_ ?_
  · by_cases hc1 : x5 = true
    · rw [if_pos hc1] at hm4
      obtain ⟨x9, hx9, hm4⟩ := bs hm4
      by_cases hc2 : x9 = true
      · rw [if_pos hc2] at hm4
        obtain ⟨x14, hx14, hm4⟩ := bs hm4
        by_cases hc3 : x14 = true
        · rw [if_pos hc3] at hm4
          obtain ⟨x21, hx21, hm4⟩ := bs hm4
          cases hm4
          exact ⟨_, sq z189 (oFA (r' := .mp 1 0 0) rfl fF128_0 rfl rfl) <| sq z189 (oLd (cs := [.im 0 _]) rfl tF9 rfl rfl) <| sq z189 (oCa (xs := [.v false [.im 0 _]]) (vs := [(false, [.im 0 _])]) (v := .v false [.im 0 _]) (L_impl_IsName hx5) (.inl rfl) rfl kF250_9 rfl (ppC rfl pp0) rfl rfl pb0 rfl rfl rfl) <| sq z189 (oMv rfl rfl) <| sgT z189 rfl rfl (Iff.rfl.2 hc1) (oFA (r' := .mp 1 0 1) rfl fF128_1 rfl rfl) <| sgT z189 rfl rfl (Iff.rfl.2 hc1) (oLd (cs := [.im 0 _]) rfl tF2 rfl rfl) <| sgT z189 rfl rfl (Iff.rfl.2 hc1) (oCa (xs := [.v false [.im 0 _], .v false [.im 0 _], .v false [.im 0 _]]) (vs := [(false, [.im 0 _])]) (v := .v false [.im 0 _]) (L_impl_within hx9) (.inl rfl) rfl kF92_2_2_2 rfl (ppC rfl (ppC rfl (ppC rfl pp0))) rfl rfl pb0 rfl rfl rfl) <| sq z189 (oPkT rfl rfl (Iff.rfl.2 hc1) rfl) <| sq z189 (oMv rfl rfl) <| sgT z189 rfl rfl (Iff.rfl.2 hc2) (oFA (r' := .mp 1 0 2) rfl fF128_2 rfl rfl) <| sgT z189 rfl rfl (Iff.rfl.2 hc2) (oLd (cs := [.im 0 _]) rfl tF2 rfl rfl) <| sgT z189 rfl rfl (Iff.rfl.2 hc2) (oCa (xs := [.v false [.im 0 _], .v false [.im 0 _], .v false [.im 0 _]]) (vs := [(false, [.im 0 _])]) (v := .v false [.im 0 _]) (L_impl_within hx14) (.inl rfl) rfl kF92_2_2_2 rfl (ppC rfl (ppC rfl (ppC rfl pp0))) rfl rfl pb0 rfl rfl rfl) <| sq z189 (oPkT rfl rfl (Iff.rfl.2 hc2) rfl) <| sq z189 (oMv rfl rfl) <| sgT z189 rfl rfl (Iff.rfl.2 hc3) (oFA (r' := .mp 1 0 3) rfl fF128_3 rfl rfl) <| sgT z189 rfl rfl (Iff.rfl.2 hc3) (oLd (cs := [.im 0 _]) rfl tF2 rfl rfl) <| sgT z189 rfl rfl (Iff.rfl.2 hc3) (oFA (r' := .mp 1 0 2) rfl fF128_2 rfl rfl) <| sgT z189 rfl rfl (Iff.rfl.2 hc3) (oLd (cs := [.im 0 _]) rfl tF2 rfl rfl) <| sgT z189 rfl rfl (Iff.rfl.2 hc3) (oCa (xs := [.v false [.im 0 _], .v false [.im 0 _], .v false [.im 0 _]]) (vs := [(false, [.im 0 _])]) (v := .v false [.im 0 _]) (L_impl_within hx21) (.inl rfl) rfl kF92_2_2_2 rfl (ppC rfl (ppC rfl (ppC rfl pp0))) rfl rfl pb0 rfl rfl rfl) <| sq z189 (oPkT rfl rfl (Iff.rfl.2 hc3) rfl) <| sq z189 (oAsI rfl rfl) <| nl, (by kernel_rfl)⟩
        · rw [if_neg hc3] at hm4
          cases hm4
          exact ⟨_, sq z189 (oFA (r' := .mp 1 0 0) rfl fF128_0 rfl rfl) <| sq z189 (oLd (cs := [.im 0 _]) rfl tF9 rfl rfl) <| sq z189 (oCa (xs := [.v false [.im 0 _]]) (vs := [(false, [.im 0 _])]) (v := .v false [.im 0 _]) (L_impl_IsName hx5) (.inl rfl) rfl kF250_9 rfl (ppC rfl pp0) rfl rfl pb0 rfl rfl rfl) <| sq z189 (oMv rfl rfl) <| sgT z189 rfl rfl (Iff.rfl.2 hc1) (oFA (r' := .mp 1 0 1) rfl fF128_1 rfl rfl) <| sgT z189 rfl rfl (Iff.rfl.2 hc1) (oLd (cs := [.im 0 _]) rfl tF2 rfl rfl) <| sgT z189 rfl rfl (Iff.rfl.2 hc1) (oCa (xs := [.v false [.im 0 _], .v false [.im 0 _], .v false [.im 0 _]]) (vs := [(false, [.im 0 _])]) (v := .v false [.im 0 _]) (L_impl_within hx9) (.inl rfl) rfl kF92_2_2_2 rfl (ppC rfl (ppC rfl (ppC rfl pp0))) rfl rfl pb0 rfl rfl rfl) <| sq z189 (oPkT rfl rfl (Iff.rfl.2 hc1) rfl) <| sq z189 (oMv rfl rfl) <| sgT z189 rfl rfl (Iff.rfl.2 hc2) (oFA (r' := .mp 1 0 2) rfl fF128_2 rfl rfl) <| sgT z189 rfl rfl (Iff.rfl.2 hc2) (oLd (cs := [.im 0 _]) rfl tF2 rfl rfl) <| sgT z189 rfl rfl (Iff.rfl.2 hc2) (oCa (xs := [.v false [.im 0 _], .v false [.im 0 _], .v false [.im 0 _]]) (vs := [(false, [.im 0 _])]) (v := .v false [.im 0 _]) (L_impl_within hx14) (.inl rfl) rfl kF92_2_2_2 rfl (ppC rfl (ppC rfl (ppC rfl pp0))) rfl rfl pb0 rfl rfl rfl) <| sq z189 (oPkT rfl rfl (Iff.rfl.2 hc2) rfl) <| sq z189 (oMv rfl rfl) <| sgF rfl rfl (byF Iff.rfl hc3) rfl <| sgF rfl rfl (byF Iff.rfl hc3) rfl <| sgF rfl rfl (byF Iff.rfl hc3) rfl <| sgF rfl rfl (byF Iff.rfl hc3) rfl <| sgF rfl rfl (byF Iff.rfl hc3) rfl <| sq z189 (oPkF rfl rfl (byF Iff.rfl hc3) rfl) <| sq z189 (oAsI rfl rfl) <| nl, (by kernel_rfl)⟩
      · rw [if_neg hc2] at hm4
        cases hm4
        exact ⟨_, sq z189 (oFA (r' := .mp 1 0 0) rfl fF128_0 rfl rfl) <| sq z189 (oLd (cs := [.im 0 _]) rfl tF9 rfl rfl) <| sq z189 (oCa (xs := [.v false [.im 0 _]]) (vs := [(false, [.im 0 _])]) (v := .v false [.im 0 _]) (L_impl_IsName hx5) (.inl rfl) rfl kF250_9 rfl (ppC rfl pp0) rfl rfl pb0 rfl rfl rfl) <| sq z189 (oMv rfl rfl) <| sgT z189 rfl rfl (Iff.rfl.2 hc1) (oFA (r' := .mp 1 0 1) rfl fF128_1 rfl rfl) <| sgT z189 rfl rfl (Iff.rfl.2 hc1) (oLd (cs := [.im 0 _]) rfl tF2 rfl rfl) <| sgT z189 rfl rfl (Iff.rfl.2 hc1) (oCa (xs := [.v false [.im 0 _], .v false [.im 0 _], .v false [.im 0 _]]) (vs := [(false, [.im 0 _])]) (v := .v false [.im 0 _]) (L_impl_within hx9) (.inl rfl) rfl kF92_2_2_2 rfl (ppC rfl (ppC rfl (ppC rfl pp0))) rfl rfl pb0 rfl rfl rfl) <| sq z189 (oPkT rfl rfl (Iff.rfl.2 hc1) rfl) <| sq z189 (oMv rfl rfl) <| sgF rfl rfl (byF Iff.rfl hc2) rfl <| sgF rfl rfl (byF Iff.rfl hc2) rfl <| sgF rfl rfl (byF Iff.rfl hc2) rfl <| sq z189 (oPkF rfl rfl (byF Iff.rfl hc2) rfl) <| sq z189 (oMv rfl rfl) <| sgF rfl rfl rfl rfl <| sgF rfl rfl rfl rfl <| sgF rfl rfl rfl rfl <| sgF rfl rfl rfl rfl <| sgF rfl rfl rfl rfl <| sq z189 (oPkF rfl rfl rfl rfl) <| sq z189 (oAsI rfl rfl) <| nl, (by kernel_rfl)⟩
    · rw [if_neg hc1] at hm4
      cases hm4
      exact ⟨_, sq z189 (oFA (r' := .mp 1 0 0) rfl fF128_0 rfl rfl) <| sq z189 (oLd (cs := [.im 0 _]) rfl tF9 rfl rfl) <| sq z189 (oCa (xs := [.v false [.im 0 _]]) (vs := [(false, [.im 0 _])]) (v := .v false [.im 0 _]) (L_impl_IsName hx5) (.inl rfl) rfl kF250_9 rfl (ppC rfl pp0) rfl rfl pb0 rfl rfl rfl) <| sq z189 (oMv rfl rfl) <| sgF rfl rfl (byF Iff.rfl hc1) rfl <| sgF rfl rfl (byF Iff.rfl hc1) rfl <| sgF rfl rfl (byF Iff.rfl hc1) rfl <| sq z189 (oPkF rfl rfl (byF Iff.rfl hc1) rfl) <| sq z189 (oMv rfl rfl) <| sgF rfl rfl rfl rfl <| sgF rfl rfl rfl rfl <| sgF rfl rfl rfl rfl <| sq z189 (oPkF rfl rfl rfl rfl) <| sq z189 (oMv rfl rfl) <| sgF rfl rfl rfl rfl <| sgF rfl rfl rfl rfl <| sgF rfl rfl rfl rfl <| sgF rfl rfl rfl rfl <| sgF rfl rfl rfl rfl <| sq z189 (oPkF rfl rfl rfl rfl) <| sq z189 (oAsI rfl rfl) <| nl, (by kernel_rfl)⟩
  · refine Unw.seq ?_
    refine Go.ret (Unw.ret ?_)
    cases h
    exact Fin_ret (fin_of rfl rF189 rfl (by kernel_rfl))
theorem L_impl_ValidCoats_c1 {c_0 : S_Coat} {r : Bool} (h : impl_ValidCoats_c1 c_0 = some r) : FL Try.prog cfg 188 [.im 2 true [.sc (.string c_0.Name), .sc (.int .i64 c_0.Work), .sc (.int .i64 c_0.Dry), .sc (.int .i64 c_0.Wait)]] = some ([(false, [.im 0 (.sc (.bool r))])], []) := by
  unfold impl_ValidCoats_c1 at h
  refine FL_goS (A := [(0, .v true [.im 2 (.sc (.string c_0.Name)), .im 2 (.sc (.int .i64 c_0.Work)), .im 2 (.sc (.int .i64 c_0.Dry)), .im 2 (.sc (.int .i64 c_0.Wait))])]) (B := [(0, none)]) (nt := 6) rfl rfl Try.func188 rfl rfl rfl rfl ?_
  refine Go.seq ?_
  refine Go.r0 c188 rfl rfl (sq z188 (oBx rfl tF128 rfl (tkI (tkI (tkI (tkI tk0))))) <| sq z188 (oAsI rfl rfl) <| nl) ?_
  refine Unw.seq ?_
  refine Go.seq ?_
  obtain ⟨x4, hx4, h⟩ := bs h
  refine Go.r0 c188 rfl rfl (sq z188 (oLd (cs := [.im 0 _, .im 0 _, .im 0 _, .im 0 _]) rfl tF128 rfl rfl) <| sq z188 (oCa (xs := [.v true [.im 0 _, .im 0 _, .im 0 _, .im 0 _]]) (vs := [(false, [.im 0 _])]) (v := .v false [.im 0 _]) (L_impl_ValidCoat hx4) (.inl rfl) rfl kF189_128 rfl (ppC rfl pp0) rfl rfl pb0 rfl rfl rfl) <| sq z188 (oUn rfl rfl rfl) <| sq z188 (oAsI rfl rfl) <| nl) ?_
  refine Unw.seq ?_
  refine Go.ret (Unw.ret ?_)
  cases h
  exact Fin_ret (fin_of rfl rF188 rfl (by kernel_rfl))
theorem L_slices_IndexFunc_impl_Coat_impl_Coat_188 {s_0 : (List S_Coat)} {r : Int} (h : slices_IndexFunc_impl_Coat_impl_Coat s_0 (fun b0 => impl_ValidCoats_c1 b0) = some r) : FL Try.prog cfg 249 [.im 2 false [.row 4 (List.map e_S_Coat s_0)], .im 2 false [.clo 188 []]] = some ([(false, [.im 0 (.sc (.int .i64 r))])], []) := by
  unfold slices_IndexFunc_impl_Coat_impl_Coat at h
  refine FL_goS (A := [(0, .v false [.im 2 (.row 4 (List.map e_S_Coat s_0))]), (1, .v false [.im 2 (.clo 188 [])])]) (B := [(0, none), (1, none)]) (nt := 19) rfl rfl Try.func249 rfl rfl rfl rfl ?_
  refine Go.seq ?_
  refine Go.r0 c249 rfl rfl (sq z249 (oAsI rfl rfl) <| nl) ?_
  refine Unw.seq ?_
  refine Go.seq ?_
  refine Go.seq ?_
  refine Go.r0 c249 rfl rfl (sq z249 (oMv rfl rfl) <| sq z249 (oLnI rfl rfl uF24 rfl) <| sq z249 (oMv rfl rfl) <| nl) ?_
  refine Unw.seq ?_
  refine Go.block ?_
  obtain ⟨o, hl, h⟩ := bs h
  refine Go.lp c249 rfl _ (fun (t_8_l2 : Int) => mk [(0, .v false [.im 2 (.row 4 (List.map e_S_Coat s_0))]), (1, .v false [.im 2 (.clo 188 [])]), (7, iv (s_0.length : Int)), (8, iv t_8_l2)] []) (fun (o : (Unit ⊕ Int)) (p : Ex × St) => match o with | (.inl _) => p.1 = .exit 0 ∧ p.2.norm ([], []) = mk [] [] | (.inr r2) => p.1 = .ret ∧ fin Try.prog cfg 249 Try.f249 [.im 2 false [.row 4 (List.map e_S_Coat s_0)], .im 2 false [.clo 188 []]] p.2 = some ([(false, [.im 0 (.sc (.int .i64 r2))])], [])) hl (by kernel_rfl) ?_ ?_ ?_
  · intro o p hp e
    rcases o with u | r2 <;> exact nomatch (hp.1.symm.trans e)
  · rintro t_8_l2 o h
    unfold slices_IndexFunc_impl_Coat_impl_Coat_l2 at h
    refine Go.seq ?_
    refine Go.r0 c249 rfl rfl (sq z249 (oBi rfl rfl rfl rfl) <| nl) ?_
    refine Unw.seq ?_
    refine Go.seq ?_
    by_cases hc5 : t_8_l2 < (s_0.length : Int)
    · rw [if_pos hc5] at h
      refine Go.condT rfl (iDec.2 hc5) ?_
      refine Go.skip ?_
      refine Unw.seq ?_
      refine Go.seq ?_
      refine Go.block ?_
      refine Go.seq ?_
      refine Go.r0 c249 rfl rfl (sq z249 (oMv rfl rfl) <| sq z249 (oAsI rfl rfl) <| nl) ?_
      refine Unw.seq ?_
      refine Go.seq ?_
      obtain ⟨x14, hx14, h⟩ := bs h
      obtain ⟨x16, hx16, h⟩ := bs h
      refine Go.r0 c249 rfl rfl (sq z249 (oMv rfl rfl) <| sq z249 (oMv rfl rfl) <| sq z249 (oMv rfl rfl) <| sq z249 (oIAI rfl hx14 sF24 rfl rfl) <| sq z249 (oLd (cs := [.im 2 _, .im 2 _, .im 2 _, .im 2 _]) rfl tF128 rfl rfl) <| sq z249 (oCa (xs := [.v true [.im 2 _, .im 2 _, .im 2 _, .im 2 _]]) (vs := [(false, [.im 0 _])]) (v := .v false [.im 0 _]) (L_impl_ValidCoats_c1 hx16) (.inr ⟨_, _, rfl, rfl⟩) rfl kF188_128 rfl (ppC rfl pp0) rfl rfl pb0 rfl rfl rfl) <| nl) ?_
      refine Unw.seq ?_
      by_cases hc6 : x16 = true
      · rw [if_pos hc6] at h
        refine Go.condT rfl (Iff.rfl.2 hc6) ?_
        refine Go.seq ?_
        refine Go.r0 c249 rfl rfl (sq z249 (oMv rfl rfl) <| sq z249 (oAsI rfl rfl) <| nl) ?_
        refine Unw.seq ?_
        refine Go.ret (Unw.ret ?_)
        cases h
        exact ⟨rfl, (fin_of rfl rF249 rfl (by kernel_rfl))⟩
      · rw [if_neg hc6] at h
        refine Go.condF rfl (byF Iff.rfl hc6) ?_
        refine Go.skip ?_
        refine Unw.blk ?_
        refine Unw.seq ?_
        refine Go.r0 c249 rfl rfl (sq z249 (oBi rfl rfl rfl rfl) <| sq z249 (oMv rfl rfl) <| nl) ?_
        refine Unw.nil ?_
        cases h
        exact ⟨rfl, (by kernel_rfl)⟩
    · rw [if_neg hc5] at h
      refine Go.condF rfl (byF iDec hc5) ?_
      refine Go.exit ?_
      refine Unw.seqx ?_
      refine Unw.nil ?_
      cases h
      exact ⟨rfl, (by kernel_rfl)⟩
  · rintro ⟨e, st⟩ hp
    rcases o with u | r2
    · dsimp only at h
      obtain ⟨he, hst⟩ := hp
      obtain rfl : e = .exit 0 := he
      refine Unw.blkx ?_
      refine Unw.seq ?_
      refine Go.seq ?_
      refine Go.r1 c249 rfl rfl hst (sq z249 (oAsI rfl rfl) <| nl) ?_
      refine Unw.seq ?_
      refine Go.ret (Unw.ret ?_)
      cases h
      exact Fin_ret (fin_of rfl rF249 rfl (by kernel_rfl))
    · dsimp only at h
      obtain ⟨he, hfin⟩ := hp
      obtain rfl : e = .ret := he
      cases h
      exact Unw.ret (Fin_ret hfin)
theorem L_slices_ContainsFunc_impl_Coat_impl_Coat_188 {s_0 : (List S_Coat)} {r : Bool} (h : slices_ContainsFunc_impl_Coat_impl_Coat s_0 (fun b0 => impl_ValidCoats_c1 b0) = some r) : FL Try.prog cfg 185 [.im 2 false [.row 4 (List.map e_S_Coat s_0)], .im 2 false [.clo 188 []]] = some ([(false, [.im 0 (.sc (.bool r))])], []) := by
  unfold slices_ContainsFunc_impl_Coat_impl_Coat at h
  refine FL_goS (A := [(0, .v false [.im 2 (.row 4 (List.map e_S_Coat s_0))]), (1, .v false [.im 2 (.clo 188 [])])]) (B := [(0, none), (1, none)]) (nt := 9) rfl rfl Try.func185 rfl rfl rfl rfl ?_
  refine Go.seq ?_
  refine Go.r0 c185 rfl rfl (sq z185 (oAsI rfl rfl) <| nl) ?_
  refine Unw.seq ?_
  refine Go.seq ?_
  obtain ⟨x7, hx7, h⟩ := bs h
  refine Go.r0 c185 rfl rfl (sq z185 (oMv rfl rfl) <| sq z185 (oMv rfl rfl) <| sq z185 (oCa (xs := [.v false [.im 2 _], .v false [.im 2 _]]) (vs := [(false, [.im 0 _])]) (v := .v false [.im 0 _]) (L_slices_IndexFunc_impl_Coat_impl_Coat_188 hx7) (.inl rfl) rfl kF249_24_287 rfl (ppC rfl (ppC rfl pp0)) rfl rfl pb0 rfl rfl rfl) <| sq z185 (oBi rfl rfl rfl rfl) <| sq z185 (oAsI rfl rfl) <| nl) ?_
  refine Unw.seq ?_
  refine Go.ret (Unw.ret ?_)
  cases h
  exact Fin_ret (fin_of rfl rF185 rfl (by kernel_rfl))
theorem L_impl_ValidCoats {list_0 : (List S_Coat)} {r : Bool} (h : impl_ValidCoats list_0 = some r) : FL Try.prog cfg 91 [.im 2 false [.row 4 (List.map e_S_Coat list_0)]] = some ([(false, [.im 0 (.sc (.bool r))])], []) := by
  unfold impl_ValidCoats at h
  refine FL_goS (A := [(0, .v false [.im 2 (.row 4 (List.map e_S_Coat list_0))])]) (B := [(0, none)]) (nt := 11) rfl rfl Try.func91 rfl rfl rfl rfl ?_
  refine Go.seq ?_
  refine Go.r0 c91 rfl rfl (sq z91 (oAsI rfl rfl) <| nl) ?_
  refine Unw.seq ?_
  refine Go.seq ?_
  obtain ⟨t_2_m1, hm2, h⟩ := bs h
  refine Go.rX c91 rfl rfl rfl (mk [(2, bv t_2_m1)] []) ?_ ?_
  · by_cases hc1 : (list_0.length : Int) ≤ 8
    · rw [if_pos hc1] at hm2
      obtain ⟨x8, hx8, hm2⟩ := bs hm2
      cases hm2
      exact ⟨_, sq z91 (oMv rfl rfl) <| sq z91 (oLnI rfl rfl uF24 rfl) <| sq z91 (oBi rfl rfl rfl rfl) <| sq z91 (oMv rfl rfl) <| sgT z91 rfl rfl (iDec.2 hc1) (oMv rfl rfl) <| sgT z91 rfl rfl (iDec.2 hc1) (oCa (xs := [.v false [.im 2 _], .fn 188 []]) (vs := [(false, [.im 0 _])]) (v := .v false [.im 0 _]) (L_slices_ContainsFunc_impl_Coat_impl_Coat_188 hx8) (.inl rfl) rfl kF185_24_287 rfl (ppC rfl (ppC rfl pp0)) rfl rfl pb0 rfl rfl rfl) <| sgT z91 rfl rfl (iDec.2 hc1) (oUn rfl rfl rfl) <| sq z91 (oPkT rfl rfl (iDec.2 hc1) rfl) <| sq z91 (oAsI rfl rfl) <| nl, (by kernel_rfl)⟩
    · rw [if_neg hc1] at hm2
      cases hm2
      exact ⟨_, sq z91 (oMv rfl rfl) <| sq z91 (oLnI rfl rfl uF24 rfl) <| sq z91 (oBi rfl rfl rfl rfl) <| sq z91 (oMv rfl rfl) <| sgF rfl rfl (byF iDec hc1) rfl <| sgF rfl rfl (byF iDec hc1) rfl <| sgF rfl rfl (byF iDec hc1) rfl <| sq z91 (oPkF rfl rfl (byF iDec hc1) rfl) <| sq z91 (oAsI rfl rfl) <| nl, (by kernel_rfl)⟩
  · refine Unw.seq ?_
    refine Go.ret (Unw.ret ?_)
    cases h
    exact Fin_ret (fin_of rfl rF91 rfl (by kernel_rfl))
theorem L_impl_areHours {open_0 : Int} {end_1 : Int} {r : Bool} (h : impl_areHours open_0 end_1 = some r) : FL Try.prog cfg 93 [.im 2 false [.sc (.int .i64 open_0)], .im 2 false [.sc (.int .i64 end_1)]] = some ([(false, [.im 0 (.sc (.bool r))])], []) := by
  unfold impl_areHours at h
  refine FL_goS (A := [(0, .v false [.im 2 (.sc (.int .i64 open_0))]), (1, .v false [.im 2 (.sc (.int .i64 end_1))])]) (B := [(0, none), (1, none)]) (nt := 16) rfl rfl Try.func93 rfl rfl rfl rfl ?_
  refine Go.seq ?_
  refine Go.r0 c93 rfl rfl (sq z93 (oAsI rfl rfl) <| nl) ?_
  refine Unw.seq ?_
  refine Go.seq ?_
  refine Go.rX c93 rfl rfl rfl (mk [(4, bv ((decide (0 ≤ open_0)) && ((decide (open_0 < end_1)) && (decide (end_1 ≤ 96)))))] []) ?_ ?_
  · by_cases hc1 : 0 ≤ open_0
    · by_cases hc2 : open_0 < end_1
      · exact ⟨_, sq z93 (oMv rfl rfl) <| sq z93 (oBi rfl rfl rfl rfl) <| sq z93 (oMv rfl rfl) <| sgT z93 rfl rfl (iDec.2 hc1) (oMv rfl rfl) <| sgT z93 rfl rfl (iDec.2 hc1) (oMv rfl rfl) <| sgT z93 rfl rfl (iDec.2 hc1) (oBi rfl rfl rfl rfl) <| sq z93 (oPkT rfl rfl (iDec.2 hc1) rfl) <| sq z93 (oMv rfl rfl) <| sgT z93 rfl rfl (iDec.2 hc2) (oMv rfl rfl) <| sgT z93 rfl rfl (iDec.2 hc2) (oBi rfl rfl rfl rfl) <| sq z93 (oPkT rfl rfl (iDec.2 hc2) rfl) <| sq z93 (oAsI rfl rfl) <| nl, (Eq.trans (b := (fun t_4_m1 : Bool => mk [(4, bv t_4_m1)] []) (decide (end_1 ≤ 96))) (by kernel_rfl) (congrArg (fun t_4_m1 : Bool => mk [(4, bv t_4_m1)] []) (by first | rfl | simp [(iDec.2 hc1), (iDec.2 hc2)])))⟩
      · exact ⟨_, sq z93 (oMv rfl rfl) <| sq z93 (oBi rfl rfl rfl rfl) <| sq z93 (oMv rfl rfl) <| sgT z93 rfl rfl (iDec.2 hc1) (oMv rfl rfl) <| sgT z93 rfl rfl (iDec.2 hc1) (oMv rfl rfl) <| sgT z93 rfl rfl (iDec.2 hc1) (oBi rfl rfl rfl rfl) <| sq z93 (oPkT rfl rfl (iDec.2 hc1) rfl) <| sq z93 (oMv rfl rfl) <| sgF rfl rfl (byF iDec hc2) rfl <| sgF rfl rfl (byF iDec hc2) rfl <| sq z93 (oPkF rfl rfl (byF iDec hc2) rfl) <| sq z93 (oAsI rfl rfl) <| nl, (Eq.trans (b := (fun t_4_m1 : Bool => mk [(4, bv t_4_m1)] []) false) (by kernel_rfl) (congrArg (fun t_4_m1 : Bool => mk [(4, bv t_4_m1)] []) (by first | rfl | simp [(iDec.2 hc1), (byF iDec hc2)])))⟩
    · exact ⟨_, sq z93 (oMv rfl rfl) <| sq z93 (oBi rfl rfl rfl rfl) <| sq z93 (oMv rfl rfl) <| sgF rfl rfl (byF iDec hc1) rfl <| sgF rfl rfl (byF iDec hc1) rfl <| sgF rfl rfl (byF iDec hc1) rfl <| sq z93 (oPkF rfl rfl (byF iDec hc1) rfl) <| sq z93 (oMv rfl rfl) <| sgF rfl rfl rfl rfl <| sgF rfl rfl rfl rfl <| sq z93 (oPkF rfl rfl rfl rfl) <| sq z93 (oAsI rfl rfl) <| nl, (Eq.trans (b := (fun t_4_m1 : Bool => mk [(4, bv t_4_m1)] []) false) (by kernel_rfl) (congrArg (fun t_4_m1 : Bool => mk [(4, bv t_4_m1)] []) (by first | rfl | simp [(byF iDec hc1)])))⟩
  · refine Unw.seq ?_
    refine Go.ret (Unw.ret ?_)
    cases h
    exact Fin_ret (fin_of rfl rF93 rfl (by kernel_rfl))
theorem L_impl_coatsCode_c1 {c_0 : S_Coat} {cap0_0 : Int} {cap1_0 : Int} {r : Bool} (h : impl_coatsCode_c1 c_0 cap0_0 cap1_0 = some r) : FL Try.prog cfg 186 [.im 2 true [.sc (.string c_0.Name), .sc (.int .i64 c_0.Work), .sc (.int .i64 c_0.Dry), .sc (.int .i64 c_0.Wait)], .im 2 false [.cp [.sc (.int .i64 cap0_0)] 0], .im 2 false [.cp [.sc (.int .i64 cap1_0)] 0]] = some ([(false, [.im 0 (.sc (.bool r))])], []) := by
  unfold impl_coatsCode_c1 at h
  refine FL_goS (A := [(0, .v true [.im 2 (.sc (.string c_0.Name)), .im 2 (.sc (.int .i64 c_0.Work)), .im 2 (.sc (.int .i64 c_0.Dry)), .im 2 (.sc (.int .i64 c_0.Wait))]), (1, .v false [.im 2 (.cp [.sc (.int .i64 cap0_0)] 0)]), (2, .v false [.im 2 (.cp [.sc (.int .i64 cap1_0)] 0)])]) (B := [(0, none), (1, none), (2, none)]) (nt := 11) rfl rfl Try.func186 rfl rfl rfl rfl ?_
  refine Go.seq ?_
  refine Go.r0 c186 rfl rfl (sq z186 (oBx rfl tF128 rfl (tkI (tkI (tkI (tkI tk0))))) <| sq z186 (oAsI rfl rfl) <| nl) ?_
  refine Unw.seq ?_
  refine Go.seq ?_
  refine Go.r0 c186 rfl rfl (sq z186 (oFA (r' := .mp 3 0 1) rfl fF128_1 rfl rfl) <| sq z186 (oLd (cs := [.im 0 _]) rfl tF2 rfl rfl) <| sq z186 (oLd (cs := [.im 2 _]) rfl tF2 rfl rfl) <| sq z186 (oLd (cs := [.im 2 _]) rfl tF2 rfl rfl) <| sq z186 (oBi rfl rfl rfl rfl) <| sq z186 (oBi rfl rfl rfl rfl) <| sq z186 (oAsI rfl rfl) <| nl) ?_
  refine Unw.seq ?_
  refine Go.ret (Unw.ret ?_)
  cases h
  exact Fin_ret (fin_of rfl rF186 rfl (by kernel_rfl))
theorem L_slices_IndexFunc_impl_Coat_impl_Coat_186 {s_0 : (List S_Coat)} {fc1_0_0 : Int} {fc1_1_0 : Int} {r : Int} (h : slices_IndexFunc_impl_Coat_impl_Coat s_0 (fun b0 => impl_coatsCode_c1 b0 fc1_0_0 fc1_1_0) = some r) : FL Try.prog cfg 249 [.im 2 false [.row 4 (List.map e_S_Coat s_0)], .im 2 false [.clo 186 [.cp [.sc (.int .i64 fc1_0_0)] 0, .cp [.sc (.int .i64 fc1_1_0)] 0]]] = some ([(false, [.im 0 (.sc (.int .i64 r))])], []) := by
  unfold slices_IndexFunc_impl_Coat_impl_Coat at h
  refine FL_goS (A := [(0, .v false [.im 2 (.row 4 (List.map e_S_Coat s_0))]), (1, .v false [.im 2 (.clo 186 [.cp [.sc (.int .i64 fc1_0_0)] 0, .cp [.sc (.int .i64 fc1_1_0)] 0])])]) (B := [(0, none), (1, none)]) (nt := 19) rfl rfl Try.func249 rfl rfl rfl rfl ?_
  refine Go.seq ?_
  refine Go.r0 c249 rfl rfl (sq z249 (oAsI rfl rfl) <| nl) ?_
  refine Unw.seq ?_
  refine Go.seq ?_
  refine Go.seq ?_
  refine Go.r0 c249 rfl rfl (sq z249 (oMv rfl rfl) <| sq z249 (oLnI rfl rfl uF24 rfl) <| sq z249 (oMv rfl rfl) <| nl) ?_
  refine Unw.seq ?_
  refine Go.block ?_
  obtain ⟨o, hl, h⟩ := bs h
  refine Go.lp c249 rfl _ (fun (t_8_l2 : Int) => mk [(0, .v false [.im 2 (.row 4 (List.map e_S_Coat s_0))]), (1, .v false [.im 2 (.clo 186 [.cp [.sc (.int .i64 fc1_0_0)] 0, .cp [.sc (.int .i64 fc1_1_0)] 0])]), (7, iv (s_0.length : Int)), (8, iv t_8_l2)] []) (fun (o : (Unit ⊕ Int)) (p : Ex × St) => match o with | (.inl _) => p.1 = .exit 0 ∧ p.2.norm ([], []) = mk [] [] | (.inr r2) => p.1 = .ret ∧ fin Try.prog cfg 249 Try.f249 [.im 2 false [.row 4 (List.map e_S_Coat s_0)], .im 2 false [.clo 186 [.cp [.sc (.int .i64 fc1_0_0)] 0, .cp [.sc (.int .i64 fc1_1_0)] 0]]] p.2 = some ([(false, [.im 0 (.sc (.int .i64 r2))])], [])) hl (by kernel_rfl) ?_ ?_ ?_
  · intro o p hp e
    rcases o with u | r2 <;> exact nomatch (hp.1.symm.trans e)
  · rintro t_8_l2 o h
    unfold slices_IndexFunc_impl_Coat_impl_Coat_l2 at h
    refine Go.seq ?_
    refine Go.r0 c249 rfl rfl (sq z249 (oBi rfl rfl rfl rfl) <| nl) ?_
    refine Unw.seq ?_
    refine Go.seq ?_
    by_cases hc5 : t_8_l2 < (s_0.length : Int)
    · rw [if_pos hc5] at h
      refine Go.condT rfl (iDec.2 hc5) ?_
      refine Go.skip ?_
      refine Unw.seq ?_
      refine Go.seq ?_
      refine Go.block ?_
      refine Go.seq ?_
      refine Go.r0 c249 rfl rfl (sq z249 (oMv rfl rfl) <| sq z249 (oAsI rfl rfl) <| nl) ?_
      refine Unw.seq ?_
      refine Go.seq ?_
      obtain ⟨x14, hx14, h⟩ := bs h
      obtain ⟨x16, hx16, h⟩ := bs h
      refine Go.r0 c249 rfl rfl (sq z249 (oMv rfl rfl) <| sq z249 (oMv rfl rfl) <| sq z249 (oMv rfl rfl) <| sq z249 (oIAI rfl hx14 sF24 rfl rfl) <| sq z249 (oLd (cs := [.im 2 _, .im 2 _, .im 2 _, .im 2 _]) rfl tF128 rfl rfl) <| sq z249 (oCa (xs := [.v true [.im 2 _, .im 2 _, .im 2 _, .im 2 _], .v false [.im 2 _], .v false [.im 2 _]]) (vs := [(false, [.im 0 _])]) (v := .v false [.im 0 _]) (L_impl_coatsCode_c1 hx16) (.inr ⟨_, _, rfl, rfl⟩) rfl kF186_128_0_0 rfl (ppC rfl (ppC rfl (ppC rfl pp0))) rfl rfl pb0 rfl rfl rfl) <| nl) ?_
      refine Unw.seq ?_
      by_cases hc6 : x16 = true
      · rw [if_pos hc6] at h
        refine Go.condT rfl (Iff.rfl.2 hc6) ?_
        refine Go.seq ?_
        refine Go.r0 c249 rfl rfl (sq z249 (oMv rfl rfl) <| sq z249 (oAsI rfl rfl) <| nl) ?_
        refine Unw.seq ?_
        refine Go.ret (Unw.ret ?_)
        cases h
        exact ⟨rfl, (fin_of rfl rF249 rfl (by kernel_rfl))⟩
      · rw [if_neg hc6] at h
        refine Go.condF rfl (byF Iff.rfl hc6) ?_
        refine Go.skip ?_
        refine Unw.blk ?_
        refine Unw.seq ?_
        refine Go.r0 c249 rfl rfl (sq z249 (oBi rfl rfl rfl rfl) <| sq z249 (oMv rfl rfl) <| nl) ?_
        refine Unw.nil ?_
        cases h
        exact ⟨rfl, (by kernel_rfl)⟩
    · rw [if_neg hc5] at h
      refine Go.condF rfl (byF iDec hc5) ?_
      refine Go.exit ?_
      refine Unw.seqx ?_
      refine Unw.nil ?_
      cases h
      exact ⟨rfl, (by kernel_rfl)⟩
  · rintro ⟨e, st⟩ hp
    rcases o with u | r2
    · dsimp only at h
      obtain ⟨he, hst⟩ := hp
      obtain rfl : e = .exit 0 := he
      refine Unw.blkx ?_
      refine Unw.seq ?_
      refine Go.seq ?_
      refine Go.r1 c249 rfl rfl hst (sq z249 (oAsI rfl rfl) <| nl) ?_
      refine Unw.seq ?_
      refine Go.ret (Unw.ret ?_)
      cases h
      exact Fin_ret (fin_of rfl rF249 rfl (by kernel_rfl))
    · dsimp only at h
      obtain ⟨he, hfin⟩ := hp
      obtain rfl : e = .ret := he
      cases h
      exact Unw.ret (Fin_ret hfin)
theorem L_slices_ContainsFunc_impl_Coat_impl_Coat_186 {s_0 : (List S_Coat)} {fc1_0_0 : Int} {fc1_1_0 : Int} {r : Bool} (h : slices_ContainsFunc_impl_Coat_impl_Coat s_0 (fun b0 => impl_coatsCode_c1 b0 fc1_0_0 fc1_1_0) = some r) : FL Try.prog cfg 185 [.im 2 false [.row 4 (List.map e_S_Coat s_0)], .im 2 false [.clo 186 [.cp [.sc (.int .i64 fc1_0_0)] 0, .cp [.sc (.int .i64 fc1_1_0)] 0]]] = some ([(false, [.im 0 (.sc (.bool r))])], []) := by
  unfold slices_ContainsFunc_impl_Coat_impl_Coat at h
  refine FL_goS (A := [(0, .v false [.im 2 (.row 4 (List.map e_S_Coat s_0))]), (1, .v false [.im 2 (.clo 186 [.cp [.sc (.int .i64 fc1_0_0)] 0, .cp [.sc (.int .i64 fc1_1_0)] 0])])]) (B := [(0, none), (1, none)]) (nt := 9) rfl rfl Try.func185 rfl rfl rfl rfl ?_
  refine Go.seq ?_
  refine Go.r0 c185 rfl rfl (sq z185 (oAsI rfl rfl) <| nl) ?_
  refine Unw.seq ?_
  refine Go.seq ?_
  obtain ⟨x7, hx7, h⟩ := bs h
  refine Go.r0 c185 rfl rfl (sq z185 (oMv rfl rfl) <| sq z185 (oMv rfl rfl) <| sq z185 (oCa (xs := [.v false [.im 2 _], .v false [.im 2 _]]) (vs := [(false, [.im 0 _])]) (v := .v false [.im 0 _]) (L_slices_IndexFunc_impl_Coat_impl_Coat_186 hx7) (.inl rfl) rfl kF249_24_287 rfl (ppC rfl (ppC rfl pp0)) rfl rfl pb0 rfl rfl rfl) <| sq z185 (oBi rfl rfl rfl rfl) <| sq z185 (oAsI rfl rfl) <| nl) ?_
  refine Unw.seq ?_
  refine Go.ret (Unw.ret ?_)
  cases h
  exact Fin_ret (fin_of rfl rF185 rfl (by kernel_rfl))
theorem L_impl_coatsCode {list_0 : (List S_Coat)} {start_1 : Int} {open_2 : Int} {end_3 : Int} {budget_4 : Int} {r : Int} (h : impl_coatsCode list_0 start_1 open_2 end_3 budget_4 = some r) : FL Try.prog cfg 88 [.im 2 false [.row 4 (List.map e_S_Coat list_0)], .im 2 false [.sc (.int .i64 start_1)], .im 2 false [.sc (.int .i64 open_2)], .im 2 false [.sc (.int .i64 end_3)], .im 2 false [.sc (.int .i64 budget_4)]] = some ([(false, [.im 0 (.sc (.int .i64 r))])], []) := by
  unfold impl_coatsCode at h
  refine FL_goS (A := [(0, .v false [.im 2 (.row 4 (List.map e_S_Coat list_0))]), (1, .v false [.im 2 (.sc (.int .i64 start_1))]), (2, .v false [.im 2 (.sc (.int .i64 open_2))]), (3, .v false [.im 2 (.sc (.int .i64 end_3))]), (4, .v false [.im 2 (.sc (.int .i64 budget_4))])]) (B := [(0, none), (1, none), (2, none), (3, none), (4, none)]) (nt := 34) rfl rfl Try.func88 rfl rfl rfl rfl ?_
  refine Go.seq ?_
  refine Go.r0 c88 rfl rfl (sq z88 (oBx rfl tF2 rfl (tkI tk0)) <| sq z88 (oBx rfl tF2 rfl (tkI tk0)) <| sq z88 (oAsI rfl rfl) <| nl) ?_
  refine Unw.seq ?_
  refine Go.seq ?_
  refine Go.block ?_
  refine Go.seq ?_
  obtain ⟨x13, hx13, h⟩ := bs h
  refine Go.r0 c88 rfl rfl (sq z88 (oMv rfl rfl) <| sq z88 (oCa (xs := [.v false [.im 2 _]]) (vs := [(false, [.im 0 _])]) (v := .v false [.im 0 _]) (L_impl_ValidCoats hx13) (.inl rfl) rfl kF91_24 rfl (ppC rfl pp0) rfl rfl pb0 rfl rfl rfl) <| sq z88 (oUn rfl rfl rfl) <| sq z88 (oAsI rfl rfl) <| nl) ?_
  refine Unw.seq ?_
  by_cases hc1 : x13 = true
  · rw [if_pos hc1] at h
    refine Go.condF rfl (nF (Iff.rfl.2 hc1)) ?_
    refine Go.seq ?_
    obtain ⟨x17, hx17, h⟩ := bs h
    obtain ⟨t_15_m3, hm6, h⟩ := bs h
    refine Go.rX c88 rfl rfl rfl (mk [(0, .v false [.im 2 (.row 4 (List.map e_S_Coat list_0))]), (7, .v false [.mp 7 0 0]), (8, .v false [.mp 8 0 0]), (15, bv t_15_m3)] [(7, some ⟨0, 0, false, true, false, false, [⟨.imm, 0, 0, .sc (.int .i64 open_2)⟩]⟩), (8, some ⟨0, 0, false, true, false, false, [⟨.imm, 0, 0, .sc (.int .i64 end_3)⟩]⟩)]) ?_ ?_
    · by_cases hc2 : x17 = true
      · rw [if_pos hc2] at hm6
        obtain ⟨x21, hx21, hm6⟩ := bs hm6
        by_cases hc3 : x21 = true
        · rw [if_pos hc3] at hm6
          obtain ⟨x27, hx27, hm6⟩ := bs hm6
          cases hm6
          exact ⟨_, sq z88 (oMv rfl rfl) <| sq z88 (oCa (xs := [.v false [.im 2 _], .v false [.im 0 _], .v false [.im 0 _]]) (vs := [(false, [.im 0 _])]) (v := .v false [.im 0 _]) (L_impl_within hx17) (.inl rfl) rfl kF92_2_2_2 rfl (ppC rfl (ppC rfl (ppC rfl pp0))) rfl rfl pb0 rfl rfl rfl) <| sq z88 (oUn rfl rfl rfl) <| sq z88 (oMv rfl rfl) <| sgT z88 rfl rfl (nF (Iff.rfl.2 hc2)) (oMv rfl rfl) <| sgT z88 rfl rfl (nF (Iff.rfl.2 hc2)) (oCa (xs := [.v false [.im 2 _], .v false [.im 0 _], .v false [.im 0 _]]) (vs := [(false, [.im 0 _])]) (v := .v false [.im 0 _]) (L_impl_within hx21) (.inl rfl) rfl kF92_2_2_2 rfl (ppC rfl (ppC rfl (ppC rfl pp0))) rfl rfl pb0 rfl rfl rfl) <| sgT z88 rfl rfl (nF (Iff.rfl.2 hc2)) (oUn rfl rfl rfl) <| sq z88 (oPkF rfl rfl (nF (Iff.rfl.2 hc2)) rfl) <| sq z88 (oMv rfl rfl) <| sgT z88 rfl rfl (nF (Iff.rfl.2 hc3)) (oLd (cs := [.im 0 _]) rfl tF2 rfl rfl) <| sgT z88 rfl rfl (nF (Iff.rfl.2 hc3)) (oLd (cs := [.im 0 _]) rfl tF2 rfl rfl) <| sgT z88 rfl rfl (nF (Iff.rfl.2 hc3)) (oCa (xs := [.v false [.im 0 _], .v false [.im 0 _]]) (vs := [(false, [.im 0 _])]) (v := .v false [.im 0 _]) (L_impl_areHours hx27) (.inl rfl) rfl kF93_2_2 rfl (ppC rfl (ppC rfl pp0)) rfl rfl pb0 rfl rfl rfl) <| sgT z88 rfl rfl (nF (Iff.rfl.2 hc3)) (oUn rfl rfl rfl) <| sq z88 (oPkF rfl rfl (nF (Iff.rfl.2 hc3)) rfl) <| sq z88 (oAsI rfl rfl) <| nl, (by kernel_rfl)⟩
        · rw [if_neg hc3] at hm6
          cases hm6
          exact ⟨_, sq z88 (oMv rfl rfl) <| sq z88 (oCa (xs := [.v false [.im 2 _], .v false [.im 0 _], .v false [.im 0 _]]) (vs := [(false, [.im 0 _])]) (v := .v false [.im 0 _]) (L_impl_within hx17) (.inl rfl) rfl kF92_2_2_2 rfl (ppC rfl (ppC rfl (ppC rfl pp0))) rfl rfl pb0 rfl rfl rfl) <| sq z88 (oUn rfl rfl rfl) <| sq z88 (oMv rfl rfl) <| sgT z88 rfl rfl (nF (Iff.rfl.2 hc2)) (oMv rfl rfl) <| sgT z88 rfl rfl (nF (Iff.rfl.2 hc2)) (oCa (xs := [.v false [.im 2 _], .v false [.im 0 _], .v false [.im 0 _]]) (vs := [(false, [.im 0 _])]) (v := .v false [.im 0 _]) (L_impl_within hx21) (.inl rfl) rfl kF92_2_2_2 rfl (ppC rfl (ppC rfl (ppC rfl pp0))) rfl rfl pb0 rfl rfl rfl) <| sgT z88 rfl rfl (nF (Iff.rfl.2 hc2)) (oUn rfl rfl rfl) <| sq z88 (oPkF rfl rfl (nF (Iff.rfl.2 hc2)) rfl) <| sq z88 (oMv rfl rfl) <| sgF rfl rfl (nT (byF Iff.rfl hc3)) rfl <| sgF rfl rfl (nT (byF Iff.rfl hc3)) rfl <| sgF rfl rfl (nT (byF Iff.rfl hc3)) rfl <| sgF rfl rfl (nT (byF Iff.rfl hc3)) rfl <| sq z88 (oPkT rfl rfl (nT (byF Iff.rfl hc3)) rfl) <| sq z88 (oAsI rfl rfl) <| nl, (by kernel_rfl)⟩
      · rw [if_neg hc2] at hm6
        cases hm6
        exact ⟨_, sq z88 (oMv rfl rfl) <| sq z88 (oCa (xs := [.v false [.im 2 _], .v false [.im 0 _], .v false [.im 0 _]]) (vs := [(false, [.im 0 _])]) (v := .v false [.im 0 _]) (L_impl_within hx17) (.inl rfl) rfl kF92_2_2_2 rfl (ppC rfl (ppC rfl (ppC rfl pp0))) rfl rfl pb0 rfl rfl rfl) <| sq z88 (oUn rfl rfl rfl) <| sq z88 (oMv rfl rfl) <| sgF rfl rfl (nT (byF Iff.rfl hc2)) rfl <| sgF rfl rfl (nT (byF Iff.rfl hc2)) rfl <| sgF rfl rfl (nT (byF Iff.rfl hc2)) rfl <| sq z88 (oPkT rfl rfl (nT (byF Iff.rfl hc2)) rfl) <| sq z88 (oMv rfl rfl) <| sgF rfl rfl rfl rfl <| sgF rfl rfl rfl rfl <| sgF rfl rfl rfl rfl <| sgF rfl rfl rfl rfl <| sq z88 (oPkT rfl rfl rfl rfl) <| sq z88 (oAsI rfl rfl) <| nl, (by kernel_rfl)⟩
    · refine Unw.seq ?_
      by_cases hc4 : t_15_m3 = true
      · rw [if_pos hc4] at h
        refine Go.condT rfl (Iff.rfl.2 hc4) ?_
        refine Go.seq ?_
        refine Go.r0 c88 rfl rfl (sq z88 (oAsI rfl rfl) <| nl) ?_
        refine Unw.seq ?_
        refine Go.ret (Unw.ret ?_)
        cases h
        exact Fin_ret (fin_of rfl rF88 rfl (by kernel_rfl))
      · rw [if_neg hc4] at h
        refine Go.condF rfl (byF Iff.rfl hc4) ?_
        refine Go.seq ?_
        obtain ⟨x33, hx33, h⟩ := bs h
        refine Go.r0 c88 rfl rfl (sq z88 (oMv rfl rfl) <| sq z88 (oMF (rs := [.mp 8 0 0, .mp 7 0 0]) rfl rfl) <| sq z88 (oCa (xs := [.v false [.im 2 _], .fn 186 [.mp 8 0 0, .mp 7 0 0]]) (vs := [(false, [.im 0 _])]) (v := .v false [.im 0 _]) (L_slices_ContainsFunc_impl_Coat_impl_Coat_186 hx33) (.inl rfl) rfl kF185_24_287 rfl (ppC rfl (ppC rfl pp0)) rfl rfl pb0 rfl rfl rfl) <| sq z88 (oAsI rfl rfl) <| nl) ?_
        refine Unw.seq ?_
        by_cases hc5 : x33 = true
        · rw [if_pos hc5] at h
          refine Go.condT rfl (Iff.rfl.2 hc5) ?_
          refine Go.seq ?_
          refine Go.r0 c88 rfl rfl (sq z88 (oAsI rfl rfl) <| nl) ?_
          refine Unw.seq ?_
          refine Go.ret (Unw.ret ?_)
          cases h
          exact Fin_ret (fin_of rfl rF88 rfl (by kernel_rfl))
        · rw [if_neg hc5] at h
          refine Go.condF rfl (byF Iff.rfl hc5) ?_
          refine Go.skip ?_
          refine Unw.blk ?_
          refine Unw.seq ?_
          refine Go.seq ?_
          refine Go.r0 c88 rfl rfl (sq z88 (oAsI rfl rfl) <| nl) ?_
          refine Unw.seq ?_
          refine Go.ret (Unw.ret ?_)
          cases h
          exact Fin_ret (fin_of rfl rF88 rfl (by kernel_rfl))
  · rw [if_neg hc1] at h
    refine Go.condT rfl (nT (byF Iff.rfl hc1)) ?_
    refine Go.seq ?_
    refine Go.r0 c88 rfl rfl (sq z88 (oAsI rfl rfl) <| nl) ?_
    refine Unw.seq ?_
    refine Go.ret (Unw.ret ?_)
    cases h
    exact Fin_ret (fin_of rfl rF88 rfl (by kernel_rfl))
theorem L_impl_inHours {time_0 : Int} {open_1 : Int} {end_2 : Int} {work_3 : Int} {r : Bool} (h : impl_inHours time_0 open_1 end_2 work_3 = some r) : FL Try.prog cfg 94 [.im 2 false [.sc (.int .i64 time_0)], .im 2 false [.sc (.int .i64 open_1)], .im 2 false [.sc (.int .i64 end_2)], .im 2 false [.sc (.int .i64 work_3)]] = some ([(false, [.im 0 (.sc (.bool r))])], []) := by
  unfold impl_inHours at h
  refine FL_goS (A := [(0, .v false [.im 2 (.sc (.int .i64 time_0))]), (1, .v false [.im 2 (.sc (.int .i64 open_1))]), (2, .v false [.im 2 (.sc (.int .i64 end_2))]), (3, .v false [.im 2 (.sc (.int .i64 work_3))])]) (B := [(0, none), (1, none), (2, none), (3, none)]) (nt := 21) rfl rfl Try.func94 rfl rfl rfl rfl ?_
  refine Go.seq ?_
  refine Go.r0 c94 rfl rfl (sq z94 (oAsI rfl rfl) <| nl) ?_
  refine Unw.seq ?_
  refine Go.seq ?_
  obtain ⟨x10, hx10, h⟩ := bs h
  obtain ⟨t_8_m1, hm2, h⟩ := bs h
  refine Go.rX c94 rfl rfl rfl (mk [(8, bv t_8_m1)] []) ?_ ?_
  · by_cases hc1 : x10 ≥ open_1
    · rw [if_pos hc1] at hm2
      obtain ⟨x15, hx15, hm2⟩ := bs hm2
      cases hm2
      exact ⟨_, sq z94 (oMv rfl rfl) <| sq z94 (oRem rfl hx10 rfl rfl) <| sq z94 (oMv rfl rfl) <| sq z94 (oBi rfl rfl rfl rfl) <| sq z94 (oMv rfl rfl) <| sgT z94 rfl rfl (iDec.2 hc1) (oMv rfl rfl) <| sgT z94 rfl rfl (iDec.2 hc1) (oRem rfl hx15 rfl rfl) <| sgT z94 rfl rfl (iDec.2 hc1) (oMv rfl rfl) <| sgT z94 rfl rfl (iDec.2 hc1) (oBi rfl rfl rfl rfl) <| sgT z94 rfl rfl (iDec.2 hc1) (oMv rfl rfl) <| sgT z94 rfl rfl (iDec.2 hc1) (oBi rfl rfl rfl rfl) <| sq z94 (oPkT rfl rfl (iDec.2 hc1) rfl) <| sq z94 (oAsI rfl rfl) <| nl, (by kernel_rfl)⟩
    · rw [if_neg hc1] at hm2
      cases hm2
      exact ⟨_, sq z94 (oMv rfl rfl) <| sq z94 (oRem rfl hx10 rfl rfl) <| sq z94 (oMv rfl rfl) <| sq z94 (oBi rfl rfl rfl rfl) <| sq z94 (oMv rfl rfl) <| sgF rfl rfl (byF iDec hc1) rfl <| sgF rfl rfl (byF iDec hc1) rfl <| sgF rfl rfl (byF iDec hc1) rfl <| sgF rfl rfl (byF iDec hc1) rfl <| sgF rfl rfl (byF iDec hc1) rfl <| sgF rfl rfl (byF iDec hc1) rfl <| sq z94 (oPkF rfl rfl (byF iDec hc1) rfl) <| sq z94 (oAsI rfl rfl) <| nl, (by kernel_rfl)⟩
  · refine Unw.seq ?_
    refine Go.ret (Unw.ret ?_)
    cases h
    exact Fin_ret (fin_of rfl rF94 rfl (by kernel_rfl))
theorem L_impl_coatSearch_run_F {self : (S_coatSearch × (List Int) × Int × Int) → Option ((List Int) × Int × S_coatSearch)} (ih : ∀ {s_0 : S_coatSearch} {begins_1 : (List Int)} {least_2 : Int} {latest_3 : Int} {r : ((List Int) × Int × S_coatSearch)}, self (s_0, begins_1, least_2, latest_3) = some r → FL Try.prog cfg 90 [.ptr true [(.imm, .row 4 (List.map e_S_Coat s_0.list)), (.imm, .sc (.int .i64 s_0.open_)), (.imm, .sc (.int .i64 s_0.end_)), (.imm, .sc (.int .i64 s_0.left))], .mv 1 (List.map eI begins_1), .im 2 false [.sc (.int .i64 least_2)], .im 2 false [.sc (.int .i64 latest_3)]] = some ([(false, [.ow 0 1 (List.map eI r.1)]), (false, [.im 0 (.sc (.int .i64 r.2.1))])], [.ptr true [(.imm, .row 4 (List.map e_S_Coat r.2.2.list)), (.imm, .sc (.int .i64 r.2.2.open_)), (.imm, .sc (.int .i64 r.2.2.end_)), (.imm, .sc (.int .i64 r.2.2.left))]])) {s_0 : S_coatSearch} {begins_1 : (List Int)} {least_2 : Int} {latest_3 : Int} {r : ((List Int) × Int × S_coatSearch)} (h : impl_coatSearch_run_F self s_0 begins_1 least_2 latest_3 = some r) : FL Try.prog cfg 90 [.ptr true [(.imm, .row 4 (List.map e_S_Coat s_0.list)), (.imm, .sc (.int .i64 s_0.open_)), (.imm, .sc (.int .i64 s_0.end_)), (.imm, .sc (.int .i64 s_0.left))], .mv 1 (List.map eI begins_1), .im 2 false [.sc (.int .i64 least_2)], .im 2 false [.sc (.int .i64 latest_3)]] = some ([(false, [.ow 0 1 (List.map eI r.1)]), (false, [.im 0 (.sc (.int .i64 r.2.1))])], [.ptr true [(.imm, .row 4 (List.map e_S_Coat r.2.2.list)), (.imm, .sc (.int .i64 r.2.2.open_)), (.imm, .sc (.int .i64 r.2.2.end_)), (.imm, .sc (.int .i64 r.2.2.left))]]) := by
  unfold impl_coatSearch_run_F at h
  refine FL_goS (A := [(0, .v false [.mp 0 0 0]), (1, .v false [.own 1 0 0]), (2, .v false [.im 2 (.sc (.int .i64 least_2))]), (3, .v false [.im 2 (.sc (.int .i64 latest_3))])]) (B := [(0, some ⟨0, 0, true, true, false, true, [⟨.imm, 0, 1, .row 4 (List.map e_S_Coat s_0.list)⟩, ⟨.imm, 0, 0, .sc (.int .i64 s_0.open_)⟩, ⟨.imm, 0, 0, .sc (.int .i64 s_0.end_)⟩, ⟨.imm, 0, 0, .sc (.int .i64 s_0.left)⟩]⟩), (1, some ⟨0, 0, false, false, false, false, [⟨.sh, 0, 0, .row 1 (List.map eI begins_1)⟩]⟩), (2, none), (3, none)]) (nt := 90) rfl rfl Try.func90 rfl rfl rfl rfl ?_
  refine Go.seq ?_
  refine Go.r0 c90 rfl rfl (sq z90 (oAsN rfl rfl eF27) <| sq z90 (oAsI rfl rfl) <| nl) ?_
  refine Unw.seq ?_
  refine Go.seq ?_
  refine Go.seq ?_
  refine Go.r0 c90 rfl rfl (sq z90 (oMv rfl rfl) <| sq z90 (oLnO rfl rfl uF27 rfl rfl rfl (fun e => nomatch e)) <| sq z90 (oMv rfl rfl) <| sq z90 (oNl rfl rfl rfl) <| sq z90 (oFA (r' := .mp 0 0 0) rfl fF132_0 rfl rfl) <| sq z90 (oLd (cs := [.im 1 _]) rfl tF24 rfl rfl) <| sq z90 (oLnI rfl rfl uF24 rfl) <| sq z90 (oBi rfl rfl rfl rfl) <| nl) ?_
  refine Unw.seq ?_
  by_cases hc1 : (begins_1.length : Int) = (s_0.list.length : Int)
  · rw [if_pos hc1] at h
    refine Go.condT rfl (iEq.2 hc1) ?_
    refine Go.seq ?_
    refine Go.r0 c90 rfl rfl (sq z90 (oMv rfl rfl) <| sq z90 (oAsO rfl rfl rfl rfl rfl) <| sq z90 (oAsI rfl rfl) <| nl) ?_
    refine Unw.seq ?_
    refine Go.ret (Unw.ret ?_)
    cases h
    exact Fin_ret (fin_of rfl rF90 rfl (by kernel_rfl))
  · rw [if_neg hc1] at h
    refine Go.condF rfl (byF iEq hc1) ?_
    refine Go.skip ?_
    refine Unw.seq ?_
    refine Go.seq ?_
    obtain ⟨x29, hx29, h⟩ := bs h
    refine Go.r0 c90 rfl rfl (sq z90 (oMv rfl rfl) <| sq z90 (oNl rfl rfl rfl) <| sq z90 (oFA (r' := .mp 0 0 0) rfl fF132_0 rfl rfl) <| sq z90 (oLd (cs := [.im 1 _]) rfl tF24 rfl rfl) <| sq z90 (oMv rfl rfl) <| sq z90 (oLnO rfl rfl uF27 rfl rfl rfl (fun e => nomatch e)) <| sq z90 (oIAI rfl hx29 sF24 rfl rfl) <| sq z90 (oLd (cs := [.im 1 _, .im 1 _, .im 1 _, .im 1 _]) rfl tF128 rfl rfl) <| sq z90 (oAl rfl tF128 (tkI (tkI (tkI (tkI tk0))))) <| sq z90 (oSt tF128 rfl rfl rfl (tkI (tkI (tkI (tkI tk0)))) rfl rfl rfl) <| nl) ?_
    refine Unw.seq ?_
    refine Go.seq ?_
    refine Go.seq ?_
    refine Go.r1 c90 rfl rfl (st1 := mk [(0, .v false [.mp 0 0 0]), (1, .v false [.own 1 0 0]), (2, iv least_2), (3, iv latest_3), (10, .v false [.mp 10 0 0])] [(0, some ⟨0, 0, true, true, false, true, [⟨.imm, 0, 1, .row 4 (List.map e_S_Coat s_0.list)⟩, ⟨.imm, 0, 0, .sc (.int .i64 s_0.open_)⟩, ⟨.imm, 0, 0, .sc (.int .i64 s_0.end_)⟩, ⟨.imm, 0, 0, .sc (.int .i64 s_0.left)⟩]⟩), (1, some ⟨0, 0, false, false, false, false, [⟨.sh, 0, 0, .row 1 (List.map eI begins_1)⟩]⟩), (10, some ⟨0, 0, false, true, false, true, [⟨.imm, 0, 0, .sc (.string x29.Name)⟩, ⟨.imm, 0, 0, .sc (.int .i64 x29.Work)⟩, ⟨.imm, 0, 0, .sc (.int .i64 x29.Dry)⟩, ⟨.imm, 0, 0, .sc (.int .i64 x29.Wait)⟩]⟩)]) (by kernel_rfl) (sq z90 (oMv rfl rfl) <| sq z90 (oAsI rfl rfl) <| nl) ?_
    refine Unw.seq ?_
    refine Go.block ?_
    obtain ⟨o, hl, h⟩ := bs h
    refine Go.lp c90 rfl _ (fun (s : (Int × (List S_Coat) × Int × Int × Int)) => match s with | (begin_11_l5, s_o0_0_l5, s_o0_1_l5, s_o0_2_l5, s_o0_3_l5) => mk [(0, .v false [.mp 0 0 0]), (1, .v false [.own 1 0 0]), (3, iv latest_3), (10, .v false [.mp 10 0 0]), (11, iv begin_11_l5)] [(0, some ⟨0, 0, true, true, false, true, [⟨.imm, 0, 1, .row 4 (List.map e_S_Coat s_o0_0_l5)⟩, ⟨.imm, 0, 0, .sc (.int .i64 s_o0_1_l5)⟩, ⟨.imm, 0, 0, .sc (.int .i64 s_o0_2_l5)⟩, ⟨.imm, 0, 0, .sc (.int .i64 s_o0_3_l5)⟩]⟩), (1, some ⟨0, 0, false, false, false, false, [⟨.sh, 0, 0, .row 1 (List.map eI begins_1)⟩]⟩), (10, some ⟨0, 0, false, true, false, true, [⟨.imm, 0, 0, .sc (.string x29.Name)⟩, ⟨.imm, 0, 0, .sc (.int .i64 x29.Work)⟩, ⟨.imm, 0, 0, .sc (.int .i64 x29.Dry)⟩, ⟨.imm, 0, 0, .sc (.int .i64 x29.Wait)⟩]⟩)]) (fun (o : (((List S_Coat) × Int × Int × Int) ⊕ ((List Int) × Int × S_coatSearch))) (p : Ex × St) => match o with | (.inl (s_o0_0_e0_5, s_o0_1_e0_5, s_o0_2_e0_5, s_o0_3_e0_5)) => p.1 = .exit 0 ∧ p.2.norm ([], [0]) = mk [] [(0, some ⟨0, 0, true, true, false, true, [⟨.imm, 0, 1, .row 4 (List.map e_S_Coat s_o0_0_e0_5)⟩, ⟨.imm, 0, 0, .sc (.int .i64 s_o0_1_e0_5)⟩, ⟨.imm, 0, 0, .sc (.int .i64 s_o0_2_e0_5)⟩, ⟨.imm, 0, 0, .sc (.int .i64 s_o0_3_e0_5)⟩]⟩)] | (.inr r2) => p.1 = .ret ∧ fin Try.prog cfg 90 Try.f90 [.ptr true [(.imm, .row 4 (List.map e_S_Coat s_0.list)), (.imm, .sc (.int .i64 s_0.open_)), (.imm, .sc (.int .i64 s_0.end_)), (.imm, .sc (.int .i64 s_0.left))], .mv 1 (List.map eI begins_1), .im 2 false [.sc (.int .i64 least_2)], .im 2 false [.sc (.int .i64 latest_3)]] p.2 = some ([(false, [.ow 0 1 (List.map eI r2.1)]), (false, [.im 0 (.sc (.int .i64 r2.2.1))])], [.ptr true [(.imm, .row 4 (List.map e_S_Coat r2.2.2.list)), (.imm, .sc (.int .i64 r2.2.2.open_)), (.imm, .sc (.int .i64 r2.2.2.end_)), (.imm, .sc (.int .i64 r2.2.2.left))]])) hl (by kernel_rfl) ?_ ?_ ?_
    · intro o p hp e
      rcases o with ⟨s_o0_0_e0_5, s_o0_1_e0_5, s_o0_2_e0_5, s_o0_3_e0_5⟩ | r2 <;> exact nomatch (hp.1.symm.trans e)
    · rintro ⟨begin_11_l5, s_o0_0_l5, s_o0_1_l5, s_o0_2_l5, s_o0_3_l5⟩ o h
      unfold impl_coatSearch_run_l5 at h
      dsimp only at h
      refine Go.seq ?_
      refine Go.seq ?_
      refine Go.r0 c90 rfl rfl (sq z90 (oMv rfl rfl) <| sq z90 (oMv rfl rfl) <| sq z90 (oBi rfl rfl rfl rfl) <| nl) ?_
      refine Unw.seq ?_
      by_cases hc10 : begin_11_l5 ≤ latest_3
      · rw [if_pos hc10] at h
        refine Go.condT rfl (iDec.2 hc10) ?_
        refine Go.skip ?_
        refine Unw.seq ?_
        refine Go.seq ?_
        refine Go.join (fun st => ∃ s_o0_0_r6, ∃ s_o0_1_r6, ∃ s_o0_2_r6, ∃ s_o0_3_r6, impl_coatSearch_run_k6 self begin_11_l5 s_o0_0_r6 s_o0_1_r6 s_o0_2_r6 s_o0_3_r6 = some o ∧ st.norm ([0, 1, 3, 10, 11], [0, 1, 10]) = mk [(0, .v false [.mp 0 0 0]), (1, .v false [.own 1 0 0]), (3, iv latest_3), (10, .v false [.mp 10 0 0]), (11, iv begin_11_l5)] [(0, some ⟨0, 0, true, true, false, true, [⟨.imm, 0, 1, .row 4 (List.map e_S_Coat s_o0_0_r6)⟩, ⟨.imm, 0, 0, .sc (.int .i64 s_o0_1_r6)⟩, ⟨.imm, 0, 0, .sc (.int .i64 s_o0_2_r6)⟩, ⟨.imm, 0, 0, .sc (.int .i64 s_o0_3_r6)⟩]⟩), (1, some ⟨0, 0, false, false, false, false, [⟨.sh, 0, 0, .row 1 (List.map eI begins_1)⟩]⟩), (10, some ⟨0, 0, false, true, false, true, [⟨.imm, 0, 0, .sc (.string x29.Name)⟩, ⟨.imm, 0, 0, .sc (.int .i64 x29.Work)⟩, ⟨.imm, 0, 0, .sc (.int .i64 x29.Dry)⟩, ⟨.imm, 0, 0, .sc (.int .i64 x29.Wait)⟩]⟩)]) ?_ ?_
        · rintro st ⟨s_o0_0_r6, s_o0_1_r6, s_o0_2_r6, s_o0_3_r6, h, hst⟩
          unfold impl_coatSearch_run_k6 at h
          refine Unw.seq ?_
          refine Go.r1 c90 rfl rfl hst (sq z90 (oMv rfl rfl) <| sq z90 (oBi rfl rfl rfl rfl) <| sq z90 (oAsI rfl rfl) <| nl) ?_
          refine Unw.nil ?_
          cases h
          exact ⟨rfl, (by kernel_rfl)⟩
        · intro K14
          refine Go.block ?_
          refine Go.seq ?_
          refine Go.seq ?_
          obtain ⟨x48, hx48, h⟩ := bs h
          refine Go.dr c90 rfl rfl rfl rfl (mk [(0, .v false [.mp 0 0 0]), (1, .v false [.own 1 0 0]), (3, iv latest_3), (10, .v false [.mp 10 0 0]), (11, iv begin_11_l5), (49, bv (!x48))] [(0, some ⟨0, 0, true, true, false, true, [⟨.imm, 0, 1, .row 4 (List.map e_S_Coat s_o0_0_l5)⟩, ⟨.imm, 0, 0, .sc (.int .i64 s_o0_1_l5)⟩, ⟨.imm, 0, 0, .sc (.int .i64 s_o0_2_l5)⟩, ⟨.imm, 0, 0, .sc (.int .i64 s_o0_3_l5)⟩]⟩), (1, some ⟨0, 0, false, false, false, false, [⟨.sh, 0, 0, .row 1 (List.map eI begins_1)⟩]⟩), (10, some ⟨0, 0, false, true, false, true, [⟨.imm, 0, 0, .sc (.string x29.Name)⟩, ⟨.imm, 0, 0, .sc (.int .i64 x29.Work)⟩, ⟨.imm, 0, 0, .sc (.int .i64 x29.Dry)⟩, ⟨.imm, 0, 0, .sc (.int .i64 x29.Wait)⟩]⟩)]) (sT rfl (dN z90 rfl (oMv rfl rfl)) <| sT rfl (dN z90 rfl (oMv rfl rfl)) <| sT rfl (dN z90 rfl (oNl rfl rfl rfl)) <| sT rfl (dN z90 rfl (oFA (r' := .mp 0 0 1) rfl fF132_1 rfl rfl)) <| sT rfl (dN z90 rfl (oLd (cs := [.im 0 _]) rfl tF2 rfl rfl)) <| sT rfl (dN z90 rfl (oMv rfl rfl)) <| sT rfl (dN z90 rfl (oNl rfl rfl rfl)) <| sT rfl (dN z90 rfl (oFA (r' := .mp 0 0 2) rfl fF132_2 rfl rfl)) <| sT rfl (dN z90 rfl (oLd (cs := [.im 0 _]) rfl tF2 rfl rfl)) <| sT rfl (dN z90 rfl (oFA (r' := .mp 10 0 1) rfl fF128_1 rfl rfl)) <| sT rfl (dN z90 rfl (oLd (cs := [.im 0 _]) rfl tF2 rfl rfl)) <| sS (dN z90 rfl (oCa (xs := [.v false [.im 0 _], .v false [.im 0 _], .v false [.im 0 _], .v false [.im 0 _]]) (vs := [(false, [.im 0 _])]) (v := .v false [.im 0 _]) (L_impl_inHours hx48) (.inl rfl) rfl kF94_2_2_2_2 rfl (ppC rfl (ppC rfl (ppC rfl (ppC rfl pp0)))) rfl rfl pb0 rfl rfl rfl)) trivial (sT rfl (dN z90 rfl (oUn rfl rfl rfl)) <| sD (by kernel_rfl))) ?_
          refine Unw.seq ?_
          by_cases hc15 : x48 = true
          · rw [if_pos hc15] at h
            refine Go.condF rfl (nF (Iff.rfl.2 hc15)) ?_
            refine Go.skip ?_
            refine Unw.seq ?_
            refine Go.seq ?_
            refine Go.seq ?_
            refine Go.r0 c90 rfl rfl (sq z90 (oMv rfl rfl) <| sq z90 (oNl rfl rfl rfl) <| sq z90 (oFA (r' := .mp 0 0 3) rfl fF132_3 rfl rfl) <| sq z90 (oLd (cs := [.im 0 _]) rfl tF2 rfl rfl) <| sq z90 (oBi rfl rfl rfl rfl) <| nl) ?_
            refine Unw.seq ?_
            by_cases hc16 : s_o0_3_l5 = 0
            · rw [if_pos hc16] at h
              refine Go.condT rfl (iEq.2 hc16) ?_
              refine Go.seq ?_
              refine Go.r0 c90 rfl rfl (sq z90 (oAsN rfl rfl eF27) <| sq z90 (oAsI rfl rfl) <| nl) ?_
              refine Unw.seq ?_
              refine Go.ret (Unw.ret ?_)
              cases h
              exact ⟨rfl, (fin_of rfl rF90 rfl (by kernel_rfl))⟩
            · rw [if_neg hc16] at h
              refine Go.condF rfl (byF iEq hc16) ?_
              refine Go.skip ?_
              refine Unw.seq ?_
              refine Go.seq ?_
              refine Go.r0 c90 rfl rfl (sq z90 (oMv rfl rfl) <| sq z90 (oNl rfl rfl rfl) <| sq z90 (oFA (r' := .mp 0 0 3) rfl fF132_3 rfl rfl) <| sq z90 (oLd (cs := [.im 0 _]) rfl tF2 rfl rfl) <| sq z90 (oBi rfl rfl rfl rfl) <| sq z90 (oNl rfl rfl rfl) <| sq z90 (oFA (r' := .mp 0 0 3) rfl fF132_3 rfl rfl) <| sq z90 (oSt tF2 rfl rfl rfl (tkI tk0) rfl rfl rfl) <| nl) ?_
              refine Unw.seq ?_
              refine Go.seq ?_
              obtain ⟨x65, hx65, h⟩ := bs h
              obtain ⟨x68, hx68, h⟩ := bs h
              obtain ⟨x83, hx83, h⟩ := bs h
              refine Go.dr c90 rfl rfl rfl (st1 := mk [(0, .v false [.mp 0 0 0]), (1, .v false [.own 1 0 0]), (3, iv latest_3), (10, .v false [.mp 10 0 0]), (11, iv begin_11_l5)] [(0, some ⟨0, 0, true, true, false, true, [⟨.imm, 0, 1, .row 4 (List.map e_S_Coat s_o0_0_l5)⟩, ⟨.imm, 0, 0, .sc (.int .i64 s_o0_1_l5)⟩, ⟨.imm, 0, 0, .sc (.int .i64 s_o0_2_l5)⟩, ⟨.imm, 0, 0, .sc (.int .i64 (w64 (s_o0_3_l5 - 1)))⟩]⟩), (1, some ⟨0, 0, false, false, false, false, [⟨.sh, 0, 0, .row 1 (List.map eI begins_1)⟩]⟩), (10, some ⟨0, 0, false, true, false, true, [⟨.imm, 0, 0, .sc (.string x29.Name)⟩, ⟨.imm, 0, 0, .sc (.int .i64 x29.Work)⟩, ⟨.imm, 0, 0, .sc (.int .i64 x29.Dry)⟩, ⟨.imm, 0, 0, .sc (.int .i64 x29.Wait)⟩]⟩)]) (by kernel_rfl) (mk [(0, .v false [.mp 0 0 0]), (1, .v false [.own 1 0 0]), (3, iv latest_3), (10, .v false [.mp 10 0 0]), (11, iv begin_11_l5), (12, .v false [.own 12 0 0]), (13, iv x83.2.1)] [(0, some ⟨0, 0, true, true, false, true, [⟨.imm, 0, 1, .row 4 (List.map e_S_Coat x83.2.2.list)⟩, ⟨.imm, 0, 0, .sc (.int .i64 x83.2.2.open_)⟩, ⟨.imm, 0, 0, .sc (.int .i64 x83.2.2.end_)⟩, ⟨.imm, 0, 0, .sc (.int .i64 x83.2.2.left)⟩]⟩), (1, some ⟨0, 0, false, false, false, false, [⟨.sh, 0, 0, .row 1 (List.map eI begins_1)⟩]⟩), (10, some ⟨0, 0, false, true, false, true, [⟨.imm, 0, 0, .sc (.string x29.Name)⟩, ⟨.imm, 0, 0, .sc (.int .i64 x29.Work)⟩, ⟨.imm, 0, 0, .sc (.int .i64 x29.Dry)⟩, ⟨.imm, 0, 0, .sc (.int .i64 x29.Wait)⟩]⟩), (12, some ⟨0, 0, false, false, false, false, [⟨.sh, 0, 0, .row 1 (List.map eI x83.1)⟩]⟩)]) (sT rfl (dN z90 rfl (oMv rfl rfl)) <| sT rfl (dN z90 rfl (oMv rfl rfl)) <| sT rfl (dN z90 rfl (oMv rfl rfl)) <| sT rfl (dN z90 rfl (oMv rfl rfl)) <| sT rfl (dN z90 rfl (oMv rfl rfl)) <| sK (O := [10]) rfl rfl rfl (dN z90 rfl (oFA (r' := .mp 10 0 1) rfl fF128_1 rfl rfl)) <| sK (O := [10]) rfl rfl rfl (dN z90 rfl (oLd (cs := [.im 0 _]) rfl tF2 rfl rfl)) <| sT rfl (dN z90 rfl (oBi rfl rfl rfl rfl)) <| sK (O := [10]) rfl rfl rfl (dN z90 rfl (oFA (r' := .mp 10 0 2) rfl fF128_2 rfl rfl)) <| sK (O := [10]) rfl rfl rfl (dN z90 rfl (oLd (cs := [.im 0 _]) rfl tF2 rfl rfl)) <| sT rfl (dN z90 rfl (oBi rfl rfl rfl rfl)) <| sK (O := [10]) rfl rfl rfl (dN z90 rfl (oFA (r' := .mp 10 0 1) rfl fF128_1 rfl rfl)) <| sK (O := [10]) rfl rfl rfl (dN z90 rfl (oLd (cs := [.im 0 _]) rfl tF2 rfl rfl)) <| sT rfl (dN z90 rfl (oBi rfl rfl rfl rfl)) <| sK (O := [10]) rfl rfl rfl (dN z90 rfl (oFA (r' := .mp 10 0 3) rfl fF128_3 rfl rfl)) <| sK (O := [10]) rfl rfl rfl (dN z90 rfl (oLd (cs := [.im 0 _]) rfl tF2 rfl rfl)) <| sT rfl (dN z90 rfl (oBi rfl rfl rfl rfl)) <| sF (dN z90 rfl (oCr (xs := [.v false [.own 1 0 0]]) (vs := [(false, [.own 65 0 0])]) (v := .v false [.own 65 0 0]) (c := ⟨.sh, 0, _⟩) (cs := []) (FL_cloneN (en := eI) (L := begins_1) rfl hx65 (fun _ => rfl)) (.inl rfl) rfl kF187_27 rfl (ppC rfl pp0) rfl rfl pb0 rfl rfl rfl)) (kY ⟨rfl, trivial⟩ (kY ⟨rfl, trivial⟩ (kY ⟨rfl, trivial⟩ (kY ⟨rfl, trivial⟩ (kY ⟨rfl, trivial⟩ (kY ⟨rfl, trivial⟩ (kY ⟨rfl, trivial⟩ (kY ⟨rfl, trivial⟩ trivial)))))))) (sS (dN z90 rfl (oBS (es := List.map eI ([begin_11_l5] : List Int)) rfl sF27 rfl (ptC rfl (fxI fx0) rfl pt0) (flat0 rfl fun _ => rfl))) (kY ⟨rfl, trivial⟩ (kY ⟨rfl, trivial⟩ (kY ⟨rfl, trivial⟩ (kY ⟨rfl, trivial⟩ (kY ⟨rfl, trivial⟩ (kY ⟨rfl, trivial⟩ (kY ⟨rfl, trivial⟩ (kY ⟨rfl, trivial⟩ trivial)))))))) (sS (dN z90 rfl (oApO (en := eI) (M := ([begin_11_l5] : List Int)) rfl hx68 rfl sF27 rfl rfl uF27 (.inl ⟨_, rfl⟩) rfl rfl rfl rfl (el_own rfl rfl) (flat0 rfl fun _ => rfl))) (kY ⟨rfl, trivial⟩ (kY ⟨rfl, trivial⟩ (kY ⟨rfl, trivial⟩ (kY ⟨rfl, trivial⟩ (kY ⟨rfl, trivial⟩ (kY ⟨rfl, trivial⟩ (kY ⟨rfl, trivial⟩ (kY ⟨rfl, trivial⟩ trivial)))))))) (sS (dN z90 rfl (oCr (xs := [.v false [.mp 0 0 0], .v false [.own 68 0 0], .v false [.im 0 _], .v false [.im 0 _]]) (vs := [(false, [.own 83 0 0]), (false, [.im 0 _])]) (v := .tup [(false, [.own 83 0 0]), (false, [.im 0 _])]) (c := ⟨.sh, 0, _⟩) (cs := []) (ih hx83) (.inl rfl) rfl kF90_130_27_2_2 rfl (ppP rfl rfl rfl (ppM (take_own rfl rfl) (ppC rfl (ppC rfl pp0)))) rfl rfl (pbP rfl rfl pb0) rfl rfl rfl)) (kN rfl (kN rfl (kN rfl (kN rfl (kN rfl (kN rfl (kN rfl (kN rfl trivial)))))))) (sT rfl (dN z90 rfl (oMvT rfl rfl)) <| sT rfl (dN z90 rfl (oEx rfl rfl rfl)) <| sT rfl (dN z90 rfl (oEx rfl rfl rfl)) <| sS (dN z90 rfl (oAsO rfl rfl rfl rfl rfl)) (kN rfl (kN rfl (kN rfl (kN rfl (kN rfl (kN rfl (kN rfl (kN rfl trivial)))))))) (sS (dN z90 rfl (oAsI rfl rfl)) (kN rfl (kN rfl (kN rfl (kN rfl (kN rfl (kN rfl (kN rfl (kN rfl trivial)))))))) (sD (by kernel_rfl))))))) (sS (dN z90 rfl (oBS (es := List.map eI ([begin_11_l5] : List Int)) rfl sF27 rfl (ptC rfl (fxI fx0) rfl pt0) (flat0 rfl fun _ => rfl))) (kY ⟨rfl, trivial⟩ (kY ⟨rfl, trivial⟩ (kY ⟨rfl, trivial⟩ (kY ⟨rfl, trivial⟩ (kY ⟨rfl, trivial⟩ (kY ⟨rfl, trivial⟩ (kY ⟨rfl, trivial⟩ (kY ⟨rfl, trivial⟩ trivial)))))))) (sS (dN z90 rfl (oCr (xs := [.v false [.own 1 0 0]]) (vs := [(false, [.own 65 0 0])]) (v := .v false [.own 65 0 0]) (c := ⟨.sh, 0, _⟩) (cs := []) (FL_cloneN (en := eI) (L := begins_1) rfl hx65 (fun _ => rfl)) (.inl rfl) rfl kF187_27 rfl (ppC rfl pp0) rfl rfl pb0 rfl rfl rfl)) (kY ⟨rfl, trivial⟩ (kY ⟨rfl, trivial⟩ (kY ⟨rfl, trivial⟩ (kY ⟨rfl, trivial⟩ (kY ⟨rfl, trivial⟩ (kY ⟨rfl, trivial⟩ (kY ⟨rfl, trivial⟩ (kY ⟨rfl, trivial⟩ trivial)))))))) (sS (dN z90 rfl (oApO (en := eI) (M := ([begin_11_l5] : List Int)) rfl hx68 rfl sF27 rfl rfl uF27 (.inl ⟨_, rfl⟩) rfl rfl rfl rfl (el_own rfl rfl) (flat0 rfl fun _ => rfl))) (kY ⟨rfl, trivial⟩ (kY ⟨rfl, trivial⟩ (kY ⟨rfl, trivial⟩ (kY ⟨rfl, trivial⟩ (kY ⟨rfl, trivial⟩ (kY ⟨rfl, trivial⟩ (kY ⟨rfl, trivial⟩ (kY ⟨rfl, trivial⟩ trivial)))))))) (sS (dN z90 rfl (oCr (xs := [.v false [.mp 0 0 0], .v false [.own 68 0 0], .v false [.im 0 _], .v false [.im 0 _]]) (vs := [(false, [.own 83 0 0]), (false, [.im 0 _])]) (v := .tup [(false, [.own 83 0 0]), (false, [.im 0 _])]) (c := ⟨.sh, 0, _⟩) (cs := []) (ih hx83) (.inl rfl) rfl kF90_130_27_2_2 rfl (ppP rfl rfl rfl (ppM (take_own rfl rfl) (ppC rfl (ppC rfl pp0)))) rfl rfl (pbP rfl rfl pb0) rfl rfl rfl)) (kN rfl (kN rfl (kN rfl (kN rfl (kN rfl (kN rfl (kN rfl (kN rfl trivial)))))))) (sT rfl (dN z90 rfl (oMvT rfl rfl)) <| sT rfl (dN z90 rfl (oEx rfl rfl rfl)) <| sT rfl (dN z90 rfl (oEx rfl rfl rfl)) <| sS (dN z90 rfl (oAsO rfl rfl rfl rfl rfl)) (kN rfl (kN rfl (kN rfl (kN rfl (kN rfl (kN rfl (kN rfl (kN rfl trivial)))))))) (sS (dN z90 rfl (oAsI rfl rfl)) (kN rfl (kN rfl (kN rfl (kN rfl (kN rfl (kN rfl (kN rfl (kN rfl trivial)))))))) (sD (by kernel_rfl))))))))) ?_
              refine Unw.seq ?_
              refine Go.seq ?_
              refine Go.r0 c90 rfl rfl (sq z90 (oMv rfl rfl) <| sq z90 (oBi rfl rfl rfl rfl) <| nl) ?_
              refine Unw.seq ?_
              by_cases hc17 : x83.2.1 ≠ 3
              · rw [if_pos hc17] at h
                refine Go.condT rfl (iNe.2 hc17) ?_
                refine Go.seq ?_
                refine Go.r0 c90 rfl rfl (sq z90 (oMv rfl rfl) <| sq z90 (oMv rfl rfl) <| sq z90 (oAsO rfl rfl rfl rfl rfl) <| sq z90 (oAsI rfl rfl) <| nl) ?_
                refine Unw.seq ?_
                refine Go.ret (Unw.ret ?_)
                cases h
                exact ⟨rfl, (fin_of rfl rF90 rfl (by kernel_rfl))⟩
              · rw [if_neg hc17] at h
                refine Go.condF rfl (byF iNe hc17) ?_
                refine Go.skip ?_
                refine Unw.blk ?_
                exact K14 _ ⟨x83.2.2.list, x83.2.2.open_, x83.2.2.end_, x83.2.2.left, h, (by kernel_rfl)⟩
          · rw [if_neg hc15] at h
            refine Go.condT rfl (nT (byF Iff.rfl hc15)) ?_
            refine Go.exit ?_
            refine Unw.seqx ?_
            refine Unw.blkx ?_
            exact K14 _ ⟨s_o0_0_l5, s_o0_1_l5, s_o0_2_l5, s_o0_3_l5, h, (by kernel_rfl)⟩
      · rw [if_neg hc10] at h
        refine Go.condF rfl (byF iDec hc10) ?_
        refine Go.exit ?_
        refine Unw.seqx ?_
        refine Unw.nil ?_
        cases h
        exact ⟨rfl, (by kernel_rfl)⟩
    · rintro ⟨e, st⟩ hp
      rcases o with ⟨s_o0_0_e0_5, s_o0_1_e0_5, s_o0_2_e0_5, s_o0_3_e0_5⟩ | r2
      · dsimp only at h
        obtain ⟨he, hst⟩ := hp
        obtain rfl : e = .exit 0 := he
        refine Unw.blkx ?_
        refine Unw.seq ?_
        refine Go.seq ?_
        refine Go.r1 c90 rfl rfl hst (sq z90 (oAsN rfl rfl eF27) <| sq z90 (oAsI rfl rfl) <| nl) ?_
        refine Unw.seq ?_
        refine Go.ret (Unw.ret ?_)
        cases h
        exact Fin_ret (fin_of rfl rF90 rfl (by kernel_rfl))
      · dsimp only at h
        obtain ⟨he, hfin⟩ := hp
        obtain rfl : e = .ret := he
        cases h
        exact Unw.ret (Fin_ret hfin)
theorem L_impl_coatSearch_run {s_0 : S_coatSearch} {begins_1 : (List Int)} {least_2 : Int} {latest_3 : Int} {r : ((List Int) × Int × S_coatSearch)} (h : impl_coatSearch_run s_0 begins_1 least_2 latest_3 = some r) : FL Try.prog cfg 90 [.ptr true [(.imm, .row 4 (List.map e_S_Coat s_0.list)), (.imm, .sc (.int .i64 s_0.open_)), (.imm, .sc (.int .i64 s_0.end_)), (.imm, .sc (.int .i64 s_0.left))], .mv 1 (List.map eI begins_1), .im 2 false [.sc (.int .i64 least_2)], .im 2 false [.sc (.int .i64 latest_3)]] = some ([(false, [.ow 0 1 (List.map eI r.1)]), (false, [.im 0 (.sc (.int .i64 r.2.1))])], [.ptr true [(.imm, .row 4 (List.map e_S_Coat r.2.2.list)), (.imm, .sc (.int .i64 r.2.2.open_)), (.imm, .sc (.int .i64 r.2.2.end_)), (.imm, .sc (.int .i64 r.2.2.left))]]) := by
  unfold impl_coatSearch_run at h
  obtain ⟨n, hn⟩ := fixO_iter h
  clear h
  induction n generalizing s_0 begins_1 least_2 latest_3 r with
  | zero => cases hn
  | succ n ihn => exact L_impl_coatSearch_run_F (self := iterO _ n) (fun h => ihn h) hn
theorem L_impl_FirstCoatPlan {list_0 : (List S_Coat)} {start_1 : Int} {open_2 : Int} {end_3 : Int} {budget_4 : Int} {r : ((List Int) × Int)} (h : impl_FirstCoatPlan list_0 start_1 open_2 end_3 budget_4 = some r) : FL Try.prog cfg 17 [.im 2 false [.row 4 (List.map e_S_Coat list_0)], .im 2 false [.sc (.int .i64 start_1)], .im 2 false [.sc (.int .i64 open_2)], .im 2 false [.sc (.int .i64 end_3)], .im 2 false [.sc (.int .i64 budget_4)]] = some ([(false, [.ow 0 1 (List.map eI r.1)]), (false, [.im 0 (.sc (.int .i64 r.2))])], []) := by
  unfold impl_FirstCoatPlan at h
  refine FL_goS (A := [(0, .v false [.im 2 (.row 4 (List.map e_S_Coat list_0))]), (1, .v false [.im 2 (.sc (.int .i64 start_1))]), (2, .v false [.im 2 (.sc (.int .i64 open_2))]), (3, .v false [.im 2 (.sc (.int .i64 end_3))]), (4, .v false [.im 2 (.sc (.int .i64 budget_4))])]) (B := [(0, none), (1, none), (2, none), (3, none), (4, none)]) (nt := 37) rfl rfl Try.func17 rfl rfl rfl rfl ?_
  refine Go.seq ?_
  refine Go.r0 c17 rfl rfl (sq z17 (oAsN rfl rfl eF27) <| sq z17 (oAsI rfl rfl) <| nl) ?_
  refine Unw.seq ?_
  refine Go.seq ?_
  refine Go.seq ?_
  obtain ⟨x19, hx19, h⟩ := bs h
  refine Go.r0 c17 rfl rfl (sq z17 (oMv rfl rfl) <| sq z17 (oMv rfl rfl) <| sq z17 (oMv rfl rfl) <| sq z17 (oMv rfl rfl) <| sq z17 (oMv rfl rfl) <| sq z17 (oCa (xs := [.v false [.im 2 _], .v false [.im 2 _], .v false [.im 2 _], .v false [.im 2 _], .v false [.im 2 _]]) (vs := [(false, [.im 0 _])]) (v := .v false [.im 0 _]) (L_impl_coatsCode hx19) (.inl rfl) rfl kF88_24_2_2_2_2 rfl (ppC rfl (ppC rfl (ppC rfl (ppC rfl (ppC rfl pp0))))) rfl rfl pb0 rfl rfl rfl) <| sq z17 (oAsI rfl rfl) <| nl) ?_
  refine Unw.seq ?_
  refine Go.seq ?_
  refine Go.r0 c17 rfl rfl (sq z17 (oMv rfl rfl) <| sq z17 (oBi rfl rfl rfl rfl) <| nl) ?_
  refine Unw.seq ?_
  by_cases hc1 : x19 ≠ 0
  · rw [if_pos hc1] at h
    refine Go.condT rfl (iNe.2 hc1) ?_
    refine Go.seq ?_
    refine Go.r0 c17 rfl rfl (sq z17 (oMv rfl rfl) <| sq z17 (oAsN rfl rfl eF27) <| sq z17 (oAsI rfl rfl) <| nl) ?_
    refine Unw.seq ?_
    refine Go.ret (Unw.ret ?_)
    cases h
    exact Fin_ret (fin_of rfl rF17 rfl (by kernel_rfl))
  · rw [if_neg hc1] at h
    refine Go.condF rfl (byF iNe hc1) ?_
    refine Go.skip ?_
    refine Unw.seq ?_
    refine Go.seq ?_
    refine Go.r0 c17 rfl rfl (sq z17 (oMv rfl rfl) <| sq z17 (oMv rfl rfl) <| sq z17 (oMv rfl rfl) <| sq z17 (oMv rfl rfl) <| sq z17 (oBu (cs := [.im 2 _, .im 2 _, .im 2 _, .im 2 _]) rfl bF132 rfl) <| sq z17 (oBx rfl tF132 rfl (tkI (tkI (tkI (tkI tk0))))) <| sq z17 (oAsP rfl rfl) <| nl) ?_
    refine Unw.seq ?_
    refine Go.seq ?_
    obtain ⟨x34, hx34, h⟩ := bs h
    refine Go.r0 c17 rfl rfl (sq z17 (oMv rfl rfl) <| sq z17 (oMv rfl rfl) <| sq z17 (oMv rfl rfl) <| sq z17 (oBi rfl rfl rfl rfl) <| sq z17 (oBi rfl rfl rfl rfl) <| sq z17 (oCr (xs := [.v false [.mp 28 0 0], .v false [.nil], .v false [.im 2 _], .v false [.im 0 _]]) (vs := [(false, [.own 34 0 0]), (false, [.im 0 _])]) (v := .tup [(false, [.own 34 0 0]), (false, [.im 0 _])]) (c := ⟨.sh, 0, _⟩) (cs := []) (L_impl_coatSearch_run hx34) (.inl rfl) rfl kF90_130_27_2_2 rfl (ppP rfl rfl rfl (ppM take_nil (ppC rfl (ppC rfl pp0)))) rfl rfl (pbP rfl rfl pb0) rfl rfl rfl) <| sq z17 (oEx rfl rfl rfl) <| sq z17 (oEx rfl rfl rfl) <| sq z17 (oAsO rfl rfl rfl rfl rfl) <| sq z17 (oAsI rfl rfl) <| nl) ?_
    refine Unw.seq ?_
    refine Go.ret (Unw.ret ?_)
    cases h
    exact Fin_ret (fin_of rfl rF17 rfl (by kernel_rfl))
theorem L_laws_eqInt64S {a_0 : (List Int)} {b_1 : (List Int)} {r : Bool} (h : laws_eqInt64S a_0 b_1 = some r) : FL Try.prog cfg 27 [.im 2 false [.row 1 (List.map eI a_0)], .im 2 false [.row 1 (List.map eI b_1)]] = some ([(false, [.im 0 (.sc (.bool r))])], []) := by
  unfold laws_eqInt64S at h
  refine FL_goS (A := [(0, .v false [.im 2 (.row 1 (List.map eI a_0))]), (1, .v false [.im 2 (.row 1 (List.map eI b_1))])]) (B := [(0, none), (1, none)]) (nt := 26) rfl rfl Try.func27 rfl rfl rfl rfl ?_
  refine Go.seq ?_
  refine Go.r0 c27 rfl rfl (sq z27 (oAsI rfl rfl) <| nl) ?_
  refine Unw.seq ?_
  refine Go.seq ?_
  refine Go.seq ?_
  refine Go.r0 c27 rfl rfl (sq z27 (oMv rfl rfl) <| sq z27 (oLnI rfl rfl uF27 rfl) <| sq z27 (oMv rfl rfl) <| sq z27 (oLnI rfl rfl uF27 rfl) <| sq z27 (oBi rfl rfl rfl rfl) <| nl) ?_
  refine Unw.seq ?_
  by_cases hc1 : (a_0.length : Int) ≠ (b_1.length : Int)
  · rw [if_pos hc1] at h
    refine Go.condT rfl (iNe.2 hc1) ?_
    refine Go.seq ?_
    refine Go.r0 c27 rfl rfl (sq z27 (oAsI rfl rfl) <| nl) ?_
    refine Unw.seq ?_
    refine Go.ret (Unw.ret ?_)
    cases h
    exact Fin_ret (fin_of rfl rF27 rfl (by kernel_rfl))
  · rw [if_neg hc1] at h
    refine Go.condF rfl (byF iNe hc1) ?_
    refine Go.skip ?_
    refine Unw.seq ?_
    refine Go.seq ?_
    refine Go.seq ?_
    refine Go.r0 c27 rfl rfl (sq z27 (oAsI rfl rfl) <| nl) ?_
    refine Unw.seq ?_
    refine Go.block ?_
    obtain ⟨o, hl, h⟩ := bs h
    refine Go.lp c27 rfl _ (fun (i_5_l4 : Int) => mk [(0, .v false [.im 2 (.row 1 (List.map eI a_0))]), (1, .v false [.im 2 (.row 1 (List.map eI b_1))]), (5, iv i_5_l4)] []) (fun (o : (Unit ⊕ Bool)) (p : Ex × St) => match o with | (.inl _) => p.1 = .exit 0 ∧ p.2.norm ([], []) = mk [] [] | (.inr r2) => p.1 = .ret ∧ fin Try.prog cfg 27 Try.f27 [.im 2 false [.row 1 (List.map eI a_0)], .im 2 false [.row 1 (List.map eI b_1)]] p.2 = some ([(false, [.im 0 (.sc (.bool r2))])], [])) hl (by kernel_rfl) ?_ ?_ ?_
    · intro o p hp e
      rcases o with u | r2 <;> exact nomatch (hp.1.symm.trans e)
    · rintro i_5_l4 o h
      unfold laws_eqInt64S_l4 at h
      refine Go.seq ?_
      refine Go.seq ?_
      refine Go.r0 c27 rfl rfl (sq z27 (oMv rfl rfl) <| sq z27 (oMv rfl rfl) <| sq z27 (oLnI rfl rfl uF27 rfl) <| sq z27 (oBi rfl rfl rfl rfl) <| nl) ?_
      refine Unw.seq ?_
      by_cases hc6 : i_5_l4 < (a_0.length : Int)
      · rw [if_pos hc6] at h
        refine Go.condT rfl (iDec.2 hc6) ?_
        refine Go.skip ?_
        refine Unw.seq ?_
        refine Go.seq ?_
        refine Go.block ?_
        refine Go.seq ?_
        obtain ⟨x19, hx19, h⟩ := bs h
        obtain ⟨x23, hx23, h⟩ := bs h
        refine Go.dr c27 rfl rfl rfl rfl (mk [(0, .v false [.im 2 (.row 1 (List.map eI a_0))]), (1, .v false [.im 2 (.row 1 (List.map eI b_1))]), (5, iv i_5_l4), (25, bv (x19 != x23))] []) (sT rfl (dN z27 rfl (oMv rfl rfl)) <| sT rfl (dN z27 rfl (oMv rfl rfl)) <| sT rfl (dN z27 rfl (oIAI rfl hx19 sF27 rfl rfl)) <| sT rfl (dN z27 rfl (oLd (cs := [.im 2 _]) rfl tF2 rfl rfl)) <| sT rfl (dN z27 rfl (oMv rfl rfl)) <| sT rfl (dN z27 rfl (oMv rfl rfl)) <| sT rfl (dN z27 rfl (oIAI rfl hx23 sF27 rfl rfl)) <| sT rfl (dN z27 rfl (oLd (cs := [.im 2 _]) rfl tF2 rfl rfl)) <| sT rfl (dN z27 rfl (oBi rfl rfl rfl rfl)) <| sD (by kernel_rfl)) ?_
        refine Unw.seq ?_
        by_cases hc7 : x19 ≠ x23
        · rw [if_pos hc7] at h
          refine Go.condT rfl (iNe.2 hc7) ?_
          refine Go.seq ?_
          refine Go.r0 c27 rfl rfl (sq z27 (oAsI rfl rfl) <| nl) ?_
          refine Unw.seq ?_
          refine Go.ret (Unw.ret ?_)
          cases h
          exact ⟨rfl, (fin_of rfl rF27 rfl (by kernel_rfl))⟩
        · rw [if_neg hc7] at h
          refine Go.condF rfl (byF iNe hc7) ?_
          refine Go.skip ?_
          refine Unw.blk ?_
          refine Unw.seq ?_
          refine Go.r0 c27 rfl rfl (sq z27 (oMv rfl rfl) <| sq z27 (oBi rfl rfl rfl rfl) <| sq z27 (oAsI rfl rfl) <| nl) ?_
          refine Unw.nil ?_
          cases h
          exact ⟨rfl, (by kernel_rfl)⟩
      · rw [if_neg hc6] at h
        refine Go.condF rfl (byF iDec hc6) ?_
        refine Go.exit ?_
        refine Unw.seqx ?_
        refine Unw.nil ?_
        cases h
        exact ⟨rfl, (by kernel_rfl)⟩
    · rintro ⟨e, st⟩ hp
      rcases o with u | r2
      · dsimp only at h
        obtain ⟨he, hst⟩ := hp
        obtain rfl : e = .exit 0 := he
        refine Unw.blkx ?_
        refine Unw.seq ?_
        refine Go.seq ?_
        refine Go.r1 c27 rfl rfl hst (sq z27 (oAsI rfl rfl) <| nl) ?_
        refine Unw.seq ?_
        refine Go.ret (Unw.ret ?_)
        cases h
        exact Fin_ret (fin_of rfl rF27 rfl (by kernel_rfl))
      · dsimp only at h
        obtain ⟨he, hfin⟩ := hp
        obtain rfl : e = .ret := he
        cases h
        exact Unw.ret (Fin_ret hfin)
theorem L_laws_eqCoat {a_0 : S_Coat} {b_1 : S_Coat} {r : Bool} (h : laws_eqCoat a_0 b_1 = some r) : FL Try.prog cfg 107 [.im 2 true [.sc (.string a_0.Name), .sc (.int .i64 a_0.Work), .sc (.int .i64 a_0.Dry), .sc (.int .i64 a_0.Wait)], .im 2 true [.sc (.string b_1.Name), .sc (.int .i64 b_1.Work), .sc (.int .i64 b_1.Dry), .sc (.int .i64 b_1.Wait)]] = some ([(false, [.im 0 (.sc (.bool r))])], []) := by
  unfold laws_eqCoat at h
  refine FL_goS (A := [(0, .v true [.im 2 (.sc (.string a_0.Name)), .im 2 (.sc (.int .i64 a_0.Work)), .im 2 (.sc (.int .i64 a_0.Dry)), .im 2 (.sc (.int .i64 a_0.Wait))]), (1, .v true [.im 2 (.sc (.string b_1.Name)), .im 2 (.sc (.int .i64 b_1.Work)), .im 2 (.sc (.int .i64 b_1.Dry)), .im 2 (.sc (.int .i64 b_1.Wait))])]) (B := [(0, none), (1, none)]) (nt := 25) rfl rfl Try.func107 rfl rfl rfl rfl ?_
  refine Go.seq ?_
  refine Go.r0 c107 rfl rfl (sq z107 (oBx rfl tF128 rfl (tkI (tkI (tkI (tkI tk0))))) <| sq z107 (oBx rfl tF128 rfl (tkI (tkI (tkI (tkI tk0))))) <| sq z107 (oAsI rfl rfl) <| nl) ?_
  refine Unw.seq ?_
  refine Go.seq ?_
  refine Go.seq ?_
  refine Go.r0 c107 rfl rfl (sq z107 (oFA (r' := .mp 2 0 0) rfl fF128_0 rfl rfl) <| sq z107 (oLd (cs := [.im 0 _]) rfl tF9 rfl rfl) <| sq z107 (oFA (r' := .mp 3 0 0) rfl fF128_0 rfl rfl) <| sq z107 (oLd (cs := [.im 0 _]) rfl tF9 rfl rfl) <| sq z107 (oBi rfl rfl rfl rfl) <| nl) ?_
  refine Unw.seq ?_
  by_cases hc1 : ¬ (a_0.Name = b_1.Name)
  · rw [if_pos hc1] at h
    refine Go.condT rfl ((iNot iStr).2 hc1) ?_
    refine Go.seq ?_
    refine Go.r0 c107 rfl rfl (sq z107 (oAsI rfl rfl) <| nl) ?_
    refine Unw.seq ?_
    refine Go.ret (Unw.ret ?_)
    cases h
    exact Fin_ret (fin_of rfl rF107 rfl (by kernel_rfl))
  · rw [if_neg hc1] at h
    refine Go.condF rfl (byF (iNot iStr) hc1) ?_
    refine Go.skip ?_
    refine Unw.seq ?_
    refine Go.seq ?_
    refine Go.seq ?_
    refine Go.r0 c107 rfl rfl (sq z107 (oFA (r' := .mp 2 0 1) rfl fF128_1 rfl rfl) <| sq z107 (oLd (cs := [.im 0 _]) rfl tF2 rfl rfl) <| sq z107 (oFA (r' := .mp 3 0 1) rfl fF128_1 rfl rfl) <| sq z107 (oLd (cs := [.im 0 _]) rfl tF2 rfl rfl) <| sq z107 (oBi rfl rfl rfl rfl) <| nl) ?_
    refine Unw.seq ?_
    by_cases hc2 : a_0.Work ≠ b_1.Work
    · rw [if_pos hc2] at h
      refine Go.condT rfl (iNe.2 hc2) ?_
      refine Go.seq ?_
      refine Go.r0 c107 rfl rfl (sq z107 (oAsI rfl rfl) <| nl) ?_
      refine Unw.seq ?_
      refine Go.ret (Unw.ret ?_)
      cases h
      exact Fin_ret (fin_of rfl rF107 rfl (by kernel_rfl))
    · rw [if_neg hc2] at h
      refine Go.condF rfl (byF iNe hc2) ?_
      refine Go.skip ?_
      refine Unw.seq ?_
      refine Go.seq ?_
      refine Go.seq ?_
      refine Go.r0 c107 rfl rfl (sq z107 (oFA (r' := .mp 2 0 2) rfl fF128_2 rfl rfl) <| sq z107 (oLd (cs := [.im 0 _]) rfl tF2 rfl rfl) <| sq z107 (oFA (r' := .mp 3 0 2) rfl fF128_2 rfl rfl) <| sq z107 (oLd (cs := [.im 0 _]) rfl tF2 rfl rfl) <| sq z107 (oBi rfl rfl rfl rfl) <| nl) ?_
      refine Unw.seq ?_
      by_cases hc3 : a_0.Dry ≠ b_1.Dry
      · rw [if_pos hc3] at h
        refine Go.condT rfl (iNe.2 hc3) ?_
        refine Go.seq ?_
        refine Go.r0 c107 rfl rfl (sq z107 (oAsI rfl rfl) <| nl) ?_
        refine Unw.seq ?_
        refine Go.ret (Unw.ret ?_)
        cases h
        exact Fin_ret (fin_of rfl rF107 rfl (by kernel_rfl))
      · rw [if_neg hc3] at h
        refine Go.condF rfl (byF iNe hc3) ?_
        refine Go.skip ?_
        refine Unw.seq ?_
        refine Go.seq ?_
        refine Go.seq ?_
        refine Go.r0 c107 rfl rfl (sq z107 (oFA (r' := .mp 2 0 3) rfl fF128_3 rfl rfl) <| sq z107 (oLd (cs := [.im 0 _]) rfl tF2 rfl rfl) <| sq z107 (oFA (r' := .mp 3 0 3) rfl fF128_3 rfl rfl) <| sq z107 (oLd (cs := [.im 0 _]) rfl tF2 rfl rfl) <| sq z107 (oBi rfl rfl rfl rfl) <| nl) ?_
        refine Unw.seq ?_
        by_cases hc4 : a_0.Wait ≠ b_1.Wait
        · rw [if_pos hc4] at h
          refine Go.condT rfl (iNe.2 hc4) ?_
          refine Go.seq ?_
          refine Go.r0 c107 rfl rfl (sq z107 (oAsI rfl rfl) <| nl) ?_
          refine Unw.seq ?_
          refine Go.ret (Unw.ret ?_)
          cases h
          exact Fin_ret (fin_of rfl rF107 rfl (by kernel_rfl))
        · rw [if_neg hc4] at h
          refine Go.condF rfl (byF iNe hc4) ?_
          refine Go.skip ?_
          refine Unw.seq ?_
          refine Go.seq ?_
          refine Go.r0 c107 rfl rfl (sq z107 (oAsI rfl rfl) <| nl) ?_
          refine Unw.seq ?_
          refine Go.ret (Unw.ret ?_)
          cases h
          exact Fin_ret (fin_of rfl rF107 rfl (by kernel_rfl))
theorem L_laws_eqCoatS {a_0 : (List S_Coat)} {b_1 : (List S_Coat)} {r : Bool} (h : laws_eqCoatS a_0 b_1 = some r) : FL Try.prog cfg 28 [.im 2 false [.row 4 (List.map e_S_Coat a_0)], .im 2 false [.row 4 (List.map e_S_Coat b_1)]] = some ([(false, [.im 0 (.sc (.bool r))])], []) := by
  unfold laws_eqCoatS at h
  refine FL_goS (A := [(0, .v false [.im 2 (.row 4 (List.map e_S_Coat a_0))]), (1, .v false [.im 2 (.row 4 (List.map e_S_Coat b_1))])]) (B := [(0, none), (1, none)]) (nt := 27) rfl rfl Try.func28 rfl rfl rfl rfl ?_
  refine Go.seq ?_
  refine Go.r0 c28 rfl rfl (sq z28 (oAsI rfl rfl) <| nl) ?_
  refine Unw.seq ?_
  refine Go.seq ?_
  refine Go.seq ?_
  refine Go.r0 c28 rfl rfl (sq z28 (oMv rfl rfl) <| sq z28 (oLnI rfl rfl uF24 rfl) <| sq z28 (oMv rfl rfl) <| sq z28 (oLnI rfl rfl uF24 rfl) <| sq z28 (oBi rfl rfl rfl rfl) <| nl) ?_
  refine Unw.seq ?_
  by_cases hc1 : (a_0.length : Int) ≠ (b_1.length : Int)
  · rw [if_pos hc1] at h
    refine Go.condT rfl (iNe.2 hc1) ?_
    refine Go.seq ?_
    refine Go.r0 c28 rfl rfl (sq z28 (oAsI rfl rfl) <| nl) ?_
    refine Unw.seq ?_
    refine Go.ret (Unw.ret ?_)
    cases h
    exact Fin_ret (fin_of rfl rF28 rfl (by kernel_rfl))
  · rw [if_neg hc1] at h
    refine Go.condF rfl (byF iNe hc1) ?_
    refine Go.skip ?_
    refine Unw.seq ?_
    refine Go.seq ?_
    refine Go.seq ?_
    refine Go.r0 c28 rfl rfl (sq z28 (oAsI rfl rfl) <| nl) ?_
    refine Unw.seq ?_
    refine Go.block ?_
    obtain ⟨o, hl, h⟩ := bs h
    refine Go.lp c28 rfl _ (fun (i_5_l4 : Int) => mk [(0, .v false [.im 2 (.row 4 (List.map e_S_Coat a_0))]), (1, .v false [.im 2 (.row 4 (List.map e_S_Coat b_1))]), (5, iv i_5_l4)] []) (fun (o : (Unit ⊕ Bool)) (p : Ex × St) => match o with | (.inl _) => p.1 = .exit 0 ∧ p.2.norm ([], []) = mk [] [] | (.inr r2) => p.1 = .ret ∧ fin Try.prog cfg 28 Try.f28 [.im 2 false [.row 4 (List.map e_S_Coat a_0)], .im 2 false [.row 4 (List.map e_S_Coat b_1)]] p.2 = some ([(false, [.im 0 (.sc (.bool r2))])], [])) hl (by kernel_rfl) ?_ ?_ ?_
    · intro o p hp e
      rcases o with u | r2 <;> exact nomatch (hp.1.symm.trans e)
    · rintro i_5_l4 o h
      unfold laws_eqCoatS_l4 at h
      refine Go.seq ?_
      refine Go.seq ?_
      refine Go.r0 c28 rfl rfl (sq z28 (oMv rfl rfl) <| sq z28 (oMv rfl rfl) <| sq z28 (oLnI rfl rfl uF24 rfl) <| sq z28 (oBi rfl rfl rfl rfl) <| nl) ?_
      refine Unw.seq ?_
      by_cases hc6 : i_5_l4 < (a_0.length : Int)
      · rw [if_pos hc6] at h
        refine Go.condT rfl (iDec.2 hc6) ?_
        refine Go.skip ?_
        refine Unw.seq ?_
        refine Go.seq ?_
        refine Go.block ?_
        refine Go.seq ?_
        obtain ⟨x19, hx19, h⟩ := bs h
        obtain ⟨x23, hx23, h⟩ := bs h
        obtain ⟨x25, hx25, h⟩ := bs h
        refine Go.dr c28 rfl rfl rfl rfl (mk [(0, .v false [.im 2 (.row 4 (List.map e_S_Coat a_0))]), (1, .v false [.im 2 (.row 4 (List.map e_S_Coat b_1))]), (5, iv i_5_l4), (26, bv (!x25))] []) (sT rfl (dN z28 rfl (oMv rfl rfl)) <| sT rfl (dN z28 rfl (oMv rfl rfl)) <| sT rfl (dN z28 rfl (oIAI rfl hx19 sF24 rfl rfl)) <| sT rfl (dN z28 rfl (oLd (cs := [.im 2 _, .im 2 _, .im 2 _, .im 2 _]) rfl tF128 rfl rfl)) <| sT rfl (dN z28 rfl (oMv rfl rfl)) <| sT rfl (dN z28 rfl (oMv rfl rfl)) <| sT rfl (dN z28 rfl (oIAI rfl hx23 sF24 rfl rfl)) <| sT rfl (dN z28 rfl (oLd (cs := [.im 2 _, .im 2 _, .im 2 _, .im 2 _]) rfl tF128 rfl rfl)) <| sS (dN z28 rfl (oCa (xs := [.v true [.im 2 _, .im 2 _, .im 2 _, .im 2 _], .v true [.im 2 _, .im 2 _, .im 2 _, .im 2 _]]) (vs := [(false, [.im 0 _])]) (v := .v false [.im 0 _]) (L_laws_eqCoat hx25) (.inl rfl) rfl kF107_128_128 rfl (ppC rfl (ppC rfl pp0)) rfl rfl pb0 rfl rfl rfl)) trivial (sT rfl (dN z28 rfl (oUn rfl rfl rfl)) <| sD (by kernel_rfl))) ?_
        refine Unw.seq ?_
        by_cases hc7 : x25 = true
        · rw [if_pos hc7] at h
          refine Go.condF rfl (nF (Iff.rfl.2 hc7)) ?_
          refine Go.skip ?_
          refine Unw.blk ?_
          refine Unw.seq ?_
          refine Go.r0 c28 rfl rfl (sq z28 (oMv rfl rfl) <| sq z28 (oBi rfl rfl rfl rfl) <| sq z28 (oAsI rfl rfl) <| nl) ?_
          refine Unw.nil ?_
          cases h
          exact ⟨rfl, (by kernel_rfl)⟩
        · rw [if_neg hc7] at h
          refine Go.condT rfl (nT (byF Iff.rfl hc7)) ?_
          refine Go.seq ?_
          refine Go.r0 c28 rfl rfl (sq z28 (oAsI rfl rfl) <| nl) ?_
          refine Unw.seq ?_
          refine Go.ret (Unw.ret ?_)
          cases h
          exact ⟨rfl, (fin_of rfl rF28 rfl (by kernel_rfl))⟩
      · rw [if_neg hc6] at h
        refine Go.condF rfl (byF iDec hc6) ?_
        refine Go.exit ?_
        refine Unw.seqx ?_
        refine Unw.nil ?_
        cases h
        exact ⟨rfl, (by kernel_rfl)⟩
    · rintro ⟨e, st⟩ hp
      rcases o with u | r2
      · dsimp only at h
        obtain ⟨he, hst⟩ := hp
        obtain rfl : e = .exit 0 := he
        refine Unw.blkx ?_
        refine Unw.seq ?_
        refine Go.seq ?_
        refine Go.r1 c28 rfl rfl hst (sq z28 (oAsI rfl rfl) <| nl) ?_
        refine Unw.seq ?_
        refine Go.ret (Unw.ret ?_)
        cases h
        exact Fin_ret (fin_of rfl rF28 rfl (by kernel_rfl))
      · dsimp only at h
        obtain ⟨he, hfin⟩ := hp
        obtain rfl : e = .ret := he
        cases h
        exact Unw.ret (Fin_ret hfin)
theorem L_laws_markText {k_0 : Int} {r : ByteArray} (h : laws_markText k_0 = some r) : FL Try.prog cfg 108 [.im 2 false [.sc (.int .i64 k_0)]] = some ([(false, [.im 0 (.sc (.string r))])], []) := by
  unfold laws_markText at h
  refine FL_goS (A := [(0, .v false [.im 2 (.sc (.int .i64 k_0))])]) (B := [(0, none)]) (nt := 20) rfl rfl Try.func108 rfl rfl rfl rfl ?_
  refine Go.seq ?_
  refine Go.r0 c108 rfl rfl (sq z108 (oAsI rfl rfl) <| nl) ?_
  refine Unw.seq ?_
  refine Go.seq ?_
  refine Go.seq ?_
  refine Go.r0 c108 rfl rfl (sq z108 (oMv rfl rfl) <| sq z108 (oBi rfl rfl rfl rfl) <| nl) ?_
  refine Unw.seq ?_
  by_cases hc1 : k_0 ≤ 0
  · rw [if_pos hc1] at h
    refine Go.condT rfl (iDec.2 hc1) ?_
    refine Go.seq ?_
    refine Go.r0 c108 rfl rfl (sq z108 (oAsI rfl rfl) <| nl) ?_
    refine Unw.seq ?_
    refine Go.ret (Unw.ret ?_)
    cases h
    exact Fin_ret (fin_of rfl rF108 rfl (by kernel_rfl))
  · rw [if_neg hc1] at h
    refine Go.condF rfl (byF iDec hc1) ?_
    refine Go.skip ?_
    refine Unw.seq ?_
    refine Go.seq ?_
    refine Go.r0 c108 rfl rfl (sq z108 (oAsI rfl rfl) <| nl) ?_
    refine Unw.seq ?_
    refine Go.seq ?_
    refine Go.block ?_
    obtain ⟨o, hl, h⟩ := bs h
    refine Go.lp c108 rfl _ (fun (s : (Int × ByteArray)) => match s with | (k_0_l4, out_3_l4) => mk [(0, iv k_0_l4), (3, sv out_3_l4)] []) (fun (out_3_e0_4 : ByteArray) (p : Ex × St) => p.1 = .exit 0 ∧ p.2.norm ([3], []) = mk [(3, sv out_3_e0_4)] []) hl (by kernel_rfl) ?_ ?_ ?_
    · intro o p hp e
      exact nomatch (hp.1.symm.trans e)
    · rintro ⟨k_0_l4, out_3_l4⟩ o h
      unfold laws_markText_l4 at h
      dsimp only at h
      refine Go.seq ?_
      refine Go.seq ?_
      refine Go.r0 c108 rfl rfl (sq z108 (oMv rfl rfl) <| sq z108 (oBi rfl rfl rfl rfl) <| nl) ?_
      refine Unw.seq ?_
      by_cases hc4 : k_0_l4 > 0
      · rw [if_pos hc4] at h
        refine Go.condT rfl (iDec.2 hc4) ?_
        refine Go.skip ?_
        refine Unw.seq ?_
        refine Go.block ?_
        refine Go.seq ?_
        obtain ⟨x9, hx9, h⟩ := bs h
        obtain ⟨x15, hx15, h⟩ := bs h
        refine Go.r0 c108 rfl rfl (sq z108 (oMv rfl rfl) <| sq z108 (oRem rfl hx9 rfl rfl) <| sq z108 (oBi rfl rfl rfl rfl) <| sq z108 (oCvI rfl uF3 uF5 rfl) <| sq z108 (oBS (es := List.map (eK .u8) ([(IntKind.wrap .u8 ((w64 (48 + x9))))] : List Int)) rfl sF22 rfl (ptC rfl (fxI fx0) rfl pt0) (flat0 rfl fun _ => rfl)) <| sq z108 (oCvB (l := ([(IntKind.wrap .u8 ((w64 (48 + x9))))] : List Int)) rfl uF22 uF5 uF9 rfl (el_own rfl rfl)) <| sq z108 (oMv rfl rfl) <| sq z108 (oCat rfl hx15 rfl rfl) <| sq z108 (oAsI rfl rfl) <| nl) ?_
        refine Unw.seq ?_
        obtain ⟨x17, hx17, h⟩ := bs h
        refine Go.r0 c108 rfl rfl (sq z108 (oMv rfl rfl) <| sq z108 (oQuo rfl hx17 rfl rfl) <| sq z108 (oAsI rfl rfl) <| nl) ?_
        refine Unw.blk ?_
        refine Unw.nil ?_
        cases h
        exact ⟨rfl, (by kernel_rfl)⟩
      · rw [if_neg hc4] at h
        refine Go.condF rfl (byF iDec hc4) ?_
        refine Go.exit ?_
        refine Unw.seqx ?_
        refine Unw.nil ?_
        cases h
        exact ⟨rfl, (by kernel_rfl)⟩
    · rintro ⟨e, st⟩ hp
      obtain ⟨out_3_e0_4, rfl⟩ : ∃ y, y = o := ⟨o, rfl⟩
      obtain ⟨he, hst⟩ := hp
      obtain rfl : e = .exit 0 := he
      refine Unw.blkx ?_
      refine Unw.seq ?_
      refine Go.seq ?_
      obtain ⟨x19, hx19, h⟩ := bs h
      refine Go.r1 c108 rfl rfl hst (sq z108 (oMv rfl rfl) <| sq z108 (oCat rfl hx19 rfl rfl) <| sq z108 (oAsI rfl rfl) <| nl) ?_
      refine Unw.seq ?_
      refine Go.ret (Unw.ret ?_)
      cases h
      exact Fin_ret (fin_of rfl rF108 rfl (by kernel_rfl))
theorem L_laws_markCoatS {a_0 : (List S_Coat)} {k_1 : Int} {r : (Int × (List S_Coat))} (h : laws_markCoatS a_0 k_1 = some r) : FL Try.prog cfg 29 [.ow 4 (List.map e_S_Coat a_0), .im 2 false [.sc (.int .i64 k_1)]] = some ([(false, [.im 0 (.sc (.int .i64 r.1))])], [.ow 4 (List.map e_S_Coat r.2)]) := by
  unfold laws_markCoatS at h
  refine FL_goS (A := [(0, .v false [.own 0 0 0]), (1, .v false [.im 2 (.sc (.int .i64 k_1))])]) (B := [(0, some ⟨0, 0, true, false, false, false, [⟨.sh, 0, 0, .row 4 (List.map e_S_Coat a_0)⟩]⟩), (1, none)]) (nt := 42) rfl rfl Try.func29 rfl rfl rfl rfl ?_
  refine Go.seq ?_
  refine Go.r0 c29 rfl rfl (sq z29 (oAsI rfl rfl) <| nl) ?_
  refine Unw.seq ?_
  refine Go.seq ?_
  refine Go.seq ?_
  refine Go.r0 c29 rfl rfl (sq z29 (oAsI rfl rfl) <| nl) ?_
  refine Unw.seq ?_
  refine Go.block ?_
  obtain ⟨o, hl, h⟩ := bs h
  refine Go.lp c29 rfl _ (fun (s : (Int × Int × (List S_Coat))) => match s with | (k_1_l2, i_5_l2, a_o0_l2) => mk [(0, .v false [.own 0 0 0]), (1, iv k_1_l2), (5, iv i_5_l2)] [(0, some ⟨0, 0, true, false, false, false, [⟨.sh, 0, 0, .row 4 (List.map e_S_Coat a_o0_l2)⟩]⟩)]) (fun (o : (Int × (List S_Coat))) (p : Ex × St) => match o with | (k_1_e0_2, a_o0_e0_2) => p.1 = .exit 0 ∧ p.2.norm ([1], [0]) = mk [(1, iv k_1_e0_2)] [(0, some ⟨0, 0, true, false, false, false, [⟨.sh, 0, 0, .row 4 (List.map e_S_Coat a_o0_e0_2)⟩]⟩)]) hl (by kernel_rfl) ?_ ?_ ?_
  · intro o p hp e
    obtain ⟨k_1_e0_2, a_o0_e0_2⟩ := o
    exact nomatch (hp.1.symm.trans e)
  · rintro ⟨k_1_l2, i_5_l2, a_o0_l2⟩ o h
    unfold laws_markCoatS_l2 at h
    dsimp only at h
    refine Go.seq ?_
    refine Go.seq ?_
    refine Go.r0 c29 rfl rfl (sq z29 (oMv rfl rfl) <| sq z29 (oMv rfl rfl) <| sq z29 (oLnO rfl rfl uF24 rfl rfl rfl (fun e => nomatch e)) <| sq z29 (oBi rfl rfl rfl rfl) <| nl) ?_
    refine Unw.seq ?_
    by_cases hc3 : i_5_l2 < (a_o0_l2.length : Int)
    · rw [if_pos hc3] at h
      refine Go.condT rfl (iDec.2 hc3) ?_
      refine Go.skip ?_
      refine Unw.seq ?_
      refine Go.seq ?_
      refine Go.block ?_
      refine Go.seq ?_
      obtain ⟨x15, hx15, h⟩ := bs h
      obtain ⟨x16, hx16, h⟩ := bs h
      refine Go.r0 c29 rfl rfl (sq z29 (oMv rfl rfl) <| sq z29 (oMv rfl rfl) <| sq z29 (oMv rfl rfl) <| sq z29 (oCa (xs := [.v false [.im 0 _]]) (vs := [(false, [.im 0 _])]) (v := .v false [.im 0 _]) (L_laws_markText hx15) (.inl rfl) rfl kF108_3 rfl (ppC rfl pp0) rfl rfl pb0 rfl rfl rfl) <| sq z29 (oIAO rfl hx16 sF24 rfl rfl rfl rfl) <| sq z29 (oFA (r' := .mpe 0 0 0 _ 0) rfl fF128_0 rfl rfl) <| sq z29 (oStE (v' := (⟨x15, x16.Work, x16.Dry, x16.Wait⟩ : S_Coat)) tF9 rfl rfl rfl (fxI fx0) rfl rfl (rd_get hx16) rfl) <| nl) ?_
      refine Unw.seq ?_
      refine Go.seq ?_
      refine Go.r1 c29 rfl rfl (st1 := mk [(0, .v false [.own 0 0 0]), (1, iv k_1_l2), (5, iv i_5_l2)] [(0, some ⟨0, 0, true, false, false, false, [⟨.sh, 0, 0, .row 4 (List.map e_S_Coat (a_o0_l2.set i_5_l2.toNat (⟨x15, x16.Work, x16.Dry, x16.Wait⟩ : S_Coat)))⟩]⟩)]) (by kernel_rfl) (sq z29 (oMv rfl rfl) <| sq z29 (oBi rfl rfl rfl rfl) <| sq z29 (oAsI rfl rfl) <| nl) ?_
      refine Unw.seq ?_
      refine Go.seq ?_
      obtain ⟨x23, hx23, h⟩ := bs h
      refine Go.r0 c29 rfl rfl (sq z29 (oMv rfl rfl) <| sq z29 (oMv rfl rfl) <| sq z29 (oMv rfl rfl) <| sq z29 (oIAO rfl hx23 sF24 rfl rfl rfl rfl) <| sq z29 (oFA (r' := .mpe 0 0 0 _ 1) rfl fF128_1 rfl rfl) <| sq z29 (oStE (v' := (⟨x23.Name, (w64 (k_1_l2 + 1)), x23.Dry, x23.Wait⟩ : S_Coat)) tF2 rfl rfl rfl (fxI fx0) rfl rfl (rd_get hx23) rfl) <| nl) ?_
      refine Unw.seq ?_
      refine Go.seq ?_
      refine Go.r1 c29 rfl rfl (st1 := mk [(0, .v false [.own 0 0 0]), (1, iv (w64 (k_1_l2 + 1))), (5, iv i_5_l2)] [(0, some ⟨0, 0, true, false, false, false, [⟨.sh, 0, 0, .row 4 (List.map e_S_Coat ((a_o0_l2.set i_5_l2.toNat (⟨x15, x16.Work, x16.Dry, x16.Wait⟩ : S_Coat)).set i_5_l2.toNat (⟨x23.Name, (w64 (k_1_l2 + 1)), x23.Dry, x23.Wait⟩ : S_Coat)))⟩]⟩)]) (by kernel_rfl) (sq z29 (oMv rfl rfl) <| sq z29 (oBi rfl rfl rfl rfl) <| sq z29 (oAsI rfl rfl) <| nl) ?_
      refine Unw.seq ?_
      refine Go.seq ?_
      obtain ⟨x30, hx30, h⟩ := bs h
      refine Go.r0 c29 rfl rfl (sq z29 (oMv rfl rfl) <| sq z29 (oMv rfl rfl) <| sq z29 (oMv rfl rfl) <| sq z29 (oIAO rfl hx30 sF24 rfl rfl rfl rfl) <| sq z29 (oFA (r' := .mpe 0 0 0 _ 2) rfl fF128_2 rfl rfl) <| sq z29 (oStE (v' := (⟨x30.Name, x30.Work, (w64 ((w64 (k_1_l2 + 1)) + 1)), x30.Wait⟩ : S_Coat)) tF2 rfl rfl rfl (fxI fx0) rfl rfl (rd_get hx30) rfl) <| nl) ?_
      refine Unw.seq ?_
      refine Go.seq ?_
      refine Go.r1 c29 rfl rfl (st1 := mk [(0, .v false [.own 0 0 0]), (1, iv (w64 ((w64 (k_1_l2 + 1)) + 1))), (5, iv i_5_l2)] [(0, some ⟨0, 0, true, false, false, false, [⟨.sh, 0, 0, .row 4 (List.map e_S_Coat (((a_o0_l2.set i_5_l2.toNat (⟨x15, x16.Work, x16.Dry, x16.Wait⟩ : S_Coat)).set i_5_l2.toNat (⟨x23.Name, (w64 (k_1_l2 + 1)), x23.Dry, x23.Wait⟩ : S_Coat)).set i_5_l2.toNat (⟨x30.Name, x30.Work, (w64 ((w64 (k_1_l2 + 1)) + 1)), x30.Wait⟩ : S_Coat)))⟩]⟩)]) (by kernel_rfl) (sq z29 (oMv rfl rfl) <| sq z29 (oBi rfl rfl rfl rfl) <| sq z29 (oAsI rfl rfl) <| nl) ?_
      refine Unw.seq ?_
      refine Go.seq ?_
      obtain ⟨x37, hx37, h⟩ := bs h
      refine Go.r0 c29 rfl rfl (sq z29 (oMv rfl rfl) <| sq z29 (oMv rfl rfl) <| sq z29 (oMv rfl rfl) <| sq z29 (oIAO rfl hx37 sF24 rfl rfl rfl rfl) <| sq z29 (oFA (r' := .mpe 0 0 0 _ 3) rfl fF128_3 rfl rfl) <| sq z29 (oStE (v' := (⟨x37.Name, x37.Work, x37.Dry, (w64 ((w64 ((w64 (k_1_l2 + 1)) + 1)) + 1))⟩ : S_Coat)) tF2 rfl rfl rfl (fxI fx0) rfl rfl (rd_get hx37) rfl) <| nl) ?_
      refine Unw.seq ?_
      refine Go.r1 c29 rfl rfl (st1 := mk [(0, .v false [.own 0 0 0]), (1, iv (w64 ((w64 ((w64 (k_1_l2 + 1)) + 1)) + 1))), (5, iv i_5_l2)] [(0, some ⟨0, 0, true, false, false, false, [⟨.sh, 0, 0, .row 4 (List.map e_S_Coat ((((a_o0_l2.set i_5_l2.toNat (⟨x15, x16.Work, x16.Dry, x16.Wait⟩ : S_Coat)).set i_5_l2.toNat (⟨x23.Name, (w64 (k_1_l2 + 1)), x23.Dry, x23.Wait⟩ : S_Coat)).set i_5_l2.toNat (⟨x30.Name, x30.Work, (w64 ((w64 (k_1_l2 + 1)) + 1)), x30.Wait⟩ : S_Coat)).set i_5_l2.toNat (⟨x37.Name, x37.Work, x37.Dry, (w64 ((w64 ((w64 (k_1_l2 + 1)) + 1)) + 1))⟩ : S_Coat)))⟩]⟩)]) (by kernel_rfl) (sq z29 (oMv rfl rfl) <| sq z29 (oBi rfl rfl rfl rfl) <| sq z29 (oAsI rfl rfl) <| nl) ?_
      refine Unw.blk ?_
      refine Unw.seq ?_
      refine Go.r0 c29 rfl rfl (sq z29 (oMv rfl rfl) <| sq z29 (oBi rfl rfl rfl rfl) <| sq z29 (oAsI rfl rfl) <| nl) ?_
      refine Unw.nil ?_
      cases h
      exact ⟨rfl, (by kernel_rfl)⟩
    · rw [if_neg hc3] at h
      refine Go.condF rfl (byF iDec hc3) ?_
      refine Go.exit ?_
      refine Unw.seqx ?_
      refine Unw.nil ?_
      cases h
      exact ⟨rfl, (by kernel_rfl)⟩
  · rintro ⟨e, st⟩ hp
    obtain ⟨k_1_e0_2, a_o0_e0_2⟩ := o
    dsimp only at h
    obtain ⟨he, hst⟩ := hp
    obtain rfl : e = .exit 0 := he
    refine Unw.blkx ?_
    refine Unw.seq ?_
    refine Go.seq ?_
    refine Go.r1 c29 rfl rfl hst (sq z29 (oMv rfl rfl) <| sq z29 (oAsI rfl rfl) <| nl) ?_
    refine Unw.seq ?_
    refine Go.ret (Unw.ret ?_)
    cases h
    exact Fin_ret (fin_of rfl rF29 rfl (by kernel_rfl))
theorem L_laws_markInt64S {a_0 : (List Int)} {k_1 : Int} {r : (Int × (List Int))} (h : laws_markInt64S a_0 k_1 = some r) : FL Try.prog cfg 30 [.ow 1 (List.map eI a_0), .im 2 false [.sc (.int .i64 k_1)]] = some ([(false, [.im 0 (.sc (.int .i64 r.1))])], [.ow 1 (List.map eI r.2)]) := by
  unfold laws_markInt64S at h
  refine FL_goS (A := [(0, .v false [.own 0 0 0]), (1, .v false [.im 2 (.sc (.int .i64 k_1))])]) (B := [(0, some ⟨0, 0, true, false, false, false, [⟨.sh, 0, 0, .row 1 (List.map eI a_0)⟩]⟩), (1, none)]) (nt := 19) rfl rfl Try.func30 rfl rfl rfl rfl ?_
  refine Go.seq ?_
  refine Go.r0 c30 rfl rfl (sq z30 (oAsI rfl rfl) <| nl) ?_
  refine Unw.seq ?_
  refine Go.seq ?_
  refine Go.seq ?_
  refine Go.r0 c30 rfl rfl (sq z30 (oAsI rfl rfl) <| nl) ?_
  refine Unw.seq ?_
  refine Go.block ?_
  obtain ⟨o, hl, h⟩ := bs h
  refine Go.lp c30 rfl _ (fun (s : (Int × Int × (List Int))) => match s with | (k_1_l2, i_5_l2, a_o0_l2) => mk [(0, .v false [.own 0 0 0]), (1, iv k_1_l2), (5, iv i_5_l2)] [(0, some ⟨0, 0, true, false, false, false, [⟨.sh, 0, 0, .row 1 (List.map eI a_o0_l2)⟩]⟩)]) (fun (o : (Int × (List Int))) (p : Ex × St) => match o with | (k_1_e0_2, a_o0_e0_2) => p.1 = .exit 0 ∧ p.2.norm ([1], [0]) = mk [(1, iv k_1_e0_2)] [(0, some ⟨0, 0, true, false, false, false, [⟨.sh, 0, 0, .row 1 (List.map eI a_o0_e0_2)⟩]⟩)]) hl (by kernel_rfl) ?_ ?_ ?_
  · intro o p hp e
    obtain ⟨k_1_e0_2, a_o0_e0_2⟩ := o
    exact nomatch (hp.1.symm.trans e)
  · rintro ⟨k_1_l2, i_5_l2, a_o0_l2⟩ o h
    unfold laws_markInt64S_l2 at h
    dsimp only at h
    refine Go.seq ?_
    refine Go.seq ?_
    refine Go.r0 c30 rfl rfl (sq z30 (oMv rfl rfl) <| sq z30 (oMv rfl rfl) <| sq z30 (oLnO rfl rfl uF27 rfl rfl rfl (fun e => nomatch e)) <| sq z30 (oBi rfl rfl rfl rfl) <| nl) ?_
    refine Unw.seq ?_
    by_cases hc3 : i_5_l2 < (a_o0_l2.length : Int)
    · rw [if_pos hc3] at h
      refine Go.condT rfl (iDec.2 hc3) ?_
      refine Go.skip ?_
      refine Unw.seq ?_
      refine Go.seq ?_
      refine Go.block ?_
      refine Go.seq ?_
      obtain ⟨x15, hx15, h⟩ := bs h
      refine Go.r0 c30 rfl rfl (sq z30 (oMv rfl rfl) <| sq z30 (oMv rfl rfl) <| sq z30 (oMv rfl rfl) <| sq z30 (oIAO rfl hx15 sF27 rfl rfl rfl rfl) <| sq z30 (oStE (v' := k_1_l2) tF2 rfl rfl rfl (fxI fx0) rfl rfl (rd_get hx15) rfl) <| nl) ?_
      refine Unw.seq ?_
      refine Go.r1 c30 rfl rfl (st1 := mk [(0, .v false [.own 0 0 0]), (1, iv k_1_l2), (5, iv i_5_l2)] [(0, some ⟨0, 0, true, false, false, false, [⟨.sh, 0, 0, .row 1 (List.map eI (a_o0_l2.set i_5_l2.toNat k_1_l2))⟩]⟩)]) (by kernel_rfl) (sq z30 (oMv rfl rfl) <| sq z30 (oBi rfl rfl rfl rfl) <| sq z30 (oAsI rfl rfl) <| nl) ?_
      refine Unw.blk ?_
      refine Unw.seq ?_
      refine Go.r0 c30 rfl rfl (sq z30 (oMv rfl rfl) <| sq z30 (oBi rfl rfl rfl rfl) <| sq z30 (oAsI rfl rfl) <| nl) ?_
      refine Unw.nil ?_
      cases h
      exact ⟨rfl, (by kernel_rfl)⟩
    · rw [if_neg hc3] at h
      refine Go.condF rfl (byF iDec hc3) ?_
      refine Go.exit ?_
      refine Unw.seqx ?_
      refine Unw.nil ?_
      cases h
      exact ⟨rfl, (by kernel_rfl)⟩
  · rintro ⟨e, st⟩ hp
    obtain ⟨k_1_e0_2, a_o0_e0_2⟩ := o
    dsimp only at h
    obtain ⟨he, hst⟩ := hp
    obtain rfl : e = .exit 0 := he
    refine Unw.blkx ?_
    refine Unw.seq ?_
    refine Go.seq ?_
    refine Go.r1 c30 rfl rfl hst (sq z30 (oMv rfl rfl) <| sq z30 (oAsI rfl rfl) <| nl) ?_
    refine Unw.seq ?_
    refine Go.ret (Unw.ret ?_)
    cases h
    exact Fin_ret (fin_of rfl rF30 rfl (by kernel_rfl))
end
end Go.Proofs.Ytigjhjlkdamncaa
