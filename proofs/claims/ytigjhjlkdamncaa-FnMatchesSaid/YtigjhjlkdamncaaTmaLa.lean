/- The machine answers, at each function of the program that is reached, what its plain function answers. Conditions: none. -/
import Derived.Test.YtigjhjlkdamncaaProg
import Derived.KernelRfl
import Derived.Test.YtigjhjlkdamncaaSimRf
import Derived.Test.YtigjhjlkdamncaaTmaT
namespace Go.Proofs.Ytigjhjlkdamncaa
open Go Go.Sim Go.Pw Go.Proofs
set_option linter.unusedVariables false
set_option linter.unusedSimpArgs false
set_option maxRecDepth 100000
set_option maxHeartbeats 4000000
noncomputable section

def e_S_Feature (x : S_Feature) : AV := .agg [.sc (.string x.Id), .row 1 (List.map eI x.Values)]
def e_S_l00Src (x : S_l00Src) : AV := .agg [.row 1 (List.map (eK .u8) x.code), .sc (.int .i64 x.at_), .sc (.int .u64 x.seed)]
def e_S_matchSearch (x : S_matchSearch) : AV := .agg [.row 2 (List.map e_S_Feature x.targets), .row 2 (List.map e_S_Feature x.stock), .sc (.int .i64 x.left), .sc (.bool x.found), .row 1 (List.map eI x.best), .sc (.int .i64 x.least)]

def fc10 : FCfg := { par := [.cst false], inn := [], out := [(7, some ([2], [])), (10, some ([2], []))], loopK := [], frz := [], sch := [] }
def fc14 : FCfg := { par := [.cst false], inn := [], out := [], loopK := [], frz := [], sch := [] }
def fc50 : FCfg := { par := [.cst false, .cst false, .cst false], inn := [(5, some ([10], [22])), (6, some ([], [])), (7, some ([10], [22]))], out := [(7, some ([6, 7, 8], [6]))], loopK := [], frz := [], sch := [(7, .first 0 [1, 2, 3, 8, 9, 10] [4, 5, 6, 7] (.first 1 [2, 3, 8, 9, 10] [4, 5, 6, 7] (.first 2 [3, 8, 9, 10] [4, 5, 6, 7] (.first 3 [8, 9, 10] [4, 5, 6, 7] (.first 4 [5, 6, 7, 9, 10] [8] (.fork 5 (.fork 6 (.fork 7 (.fork 8 (.fork 9 (.fork 10 (.done) (.stop)) (.stop)) (.stop)) (.fork 8 (.first 7 [9, 10] [] (.fork 9 (.fork 10 (.done) (.stop)) (.stop))) (.stop))) (.fork 8 (.first 6 [7, 9, 10] [] (.first 7 [9, 10] [] (.fork 9 (.fork 10 (.done) (.stop)) (.stop)))) (.stop))) (.fork 8 (.first 5 [6, 7, 9, 10] [] (.first 6 [7, 9, 10] [] (.first 7 [9, 10] [] (.fork 9 (.fork 10 (.done) (.stop)) (.stop))))) (.stop))))))))] }
def fc65 : FCfg := { par := [.cst false], inn := [(3, some ([5, 6], [6, 9])), (4, some ([5, 6, 7], [6, 7, 9]))], out := [], loopK := [], frz := [], sch := [] }
def fc66 : FCfg := { par := [.cst false, .cst false], inn := [(5, some ([0, 1, 7], [7])), (8, some ([1, 7, 9, 20, 21, 22], [7, 9])), (12, some ([7], [7]))], out := [(10, some ([1, 7, 20, 21, 22], [7]))], loopK := [(6, ([1, 7, 20, 21, 22], [7]))], frz := [], sch := [(10, .first 1 [3, 4, 5, 6, 7] [0, 2] (.first 2 [3, 4, 5, 6, 7] [0] (.first 3 [4, 5, 6, 7] [0] (.first 4 [5, 6, 7] [0] (.first 0 [6, 7] [5] (.fork 5 (.fork 6 (.fork 7 (.done) (.stop)) (.stop)) (.stop)))))))] }
def fc67 : FCfg := { par := [.cst false, .cst false, .cst false], inn := [(11, some ([8], []))], out := [(1, some ([0, 1, 2, 11], [])), (3, some ([0, 1, 2, 20], [])), (9, some ([0, 1, 8, 33, 34, 35], []))], loopK := [(7, ([0, 1, 8, 33, 34, 35], []))], frz := [], sch := [(9, .first 0 [10, 11] [1, 2, 3, 4, 5, 6, 7, 8, 9] (.first 1 [3, 4, 9, 10, 11] [2, 5, 6, 7, 8] (.first 2 [3, 4, 9, 10, 11] [5, 6, 7, 8] (.first 3 [4, 9, 10, 11] [5, 6, 7, 8] (.first 4 [9, 10, 11] [5, 6, 7, 8] (.first 5 [7, 8, 9, 10, 11] [6] (.first 6 [7, 8, 9, 10, 11] [] (.first 7 [8, 9, 10, 11] [] (.first 8 [9, 10, 11] [] (.fork 9 (.first 10 [11] [] (.fork 11 (.done) (.stop))) (.stop)))))))))))] }
def fc85 : FCfg := { par := [.cst false], inn := [], out := [], loopK := [], frz := [], sch := [] }
def fc87 : FCfg := { par := [.ptr [.imm, .imm, .imm]], inn := [(2, some ([0], [0])), (3, some ([0], [0]))], out := [], loopK := [], frz := [], sch := [] }
def fc92 : FCfg := { par := [.cst false, .cst false, .cst false], inn := [], out := [(1, some ([6], []))], loopK := [], frz := [], sch := [] }
def fc95 : FCfg := { par := [.cst false, .cst false], inn := [], out := [], loopK := [], frz := [], sch := [] }
def fc99 : FCfg := { par := [.ptr [.imm, .imm, .imm], .cst false], inn := [], out := [], loopK := [], frz := [], sch := [] }
def fc130 : FCfg := { par := [.cst false, .cst false, .cst false], inn := [], out := [(1, some ([0, 1, 2, 7], []))], loopK := [], frz := [], sch := [] }
def fc131 : FCfg := { par := [.ptr [.imm, .imm, .imm, .imm, .sh, .imm], .mv, .cst false], inn := [(3, some ([], [0])), (7, some ([0, 1, 2, 7, 8, 32, 33, 34], [0, 1, 8])), (13, some ([0, 1, 2, 7, 9, 32, 33, 34], [0, 1])), (14, some ([], [0])), (15, some ([0, 1, 2, 32, 33, 34], [0, 1])), (16, some ([], [0]))], out := [(8, some ([0, 1, 2, 7, 9, 32, 33, 34], [0, 1])), (9, some ([0, 1, 2, 7, 9, 32, 33, 34, 65], [0, 1]))], loopK := [(5, ([0, 1, 2, 32, 33, 34], [0, 1]))], frz := [], sch := [(8, .first 0 [11, 12] [1, 2, 3, 4, 5, 6, 7, 8, 9, 10] (.first 1 [2, 3, 4, 7, 8, 10, 11, 12] [5, 6, 9] (.first 2 [3, 4, 7, 8, 10, 11, 12] [5, 6, 9] (.first 3 [4, 7, 8, 10, 11, 12] [5, 6, 9] (.first 4 [7, 8, 10, 11, 12] [5, 6, 9] (.first 5 [6, 7, 8, 10, 11, 12] [9] (.first 6 [7, 8, 10, 11, 12] [9] (.first 7 [8, 10, 11, 12] [9] (.first 8 [10, 11, 12] [9] (.first 9 [10, 11, 12] [] (.fork 10 (.first 11 [12] [] (.fork 12 (.done) (.stop))) (.stop))))))))))))] }
def fc148 : FCfg := { par := [.ptr [.imm, .imm, .imm]], inn := [(5, some ([0, 3, 4, 5], [0, 3, 4])), (7, some ([0, 3, 4, 5], [0, 3, 4])), (8, some ([0, 4], [0, 4])), (9, some ([0, 4, 28], [0, 4])), (13, some ([6], [0])), (18, some ([4], [0, 4]))], out := [], loopK := [(4, ([0, 3, 4, 5], [0, 3, 4])), (15, ([4, 6, 7], [0, 4]))], frz := [], sch := [] }
def fc149 : FCfg := { par := [.cst false, .cst false], inn := [(9, some ([2, 3, 6], [2, 3, 6])), (10, some ([6], [6]))], out := [(1, some ([2, 3, 15], [2, 3]))], loopK := [(5, ([2, 3, 6, 18, 19], [2, 3, 6]))], frz := [], sch := [] }
def fc150 : FCfg := { par := [.cst false, .cst false], inn := [(7, some ([], []))], out := [], loopK := [(2, ([0, 1, 7, 8], []))], frz := [], sch := [] }
def fc151 : FCfg := { par := [.cst false], inn := [], out := [], loopK := [], frz := [], sch := [] }
def fc152 : FCfg := { par := [.cst false, .cst false], inn := [], out := [], loopK := [], frz := [], sch := [] }
def fc153 : FCfg := { par := [.cst false], inn := [(4, some ([0, 3, 4, 5, 6, 7], [4])), (7, some ([0], []))], out := [(4, some ([0, 5, 6, 7, 29], []))], loopK := [(2, ([0, 5, 6, 7], []))], frz := [], sch := [(4, .first 0 [1, 2, 3, 4, 5, 6, 7, 8, 9, 10, 11, 12, 13, 14, 15, 16, 17] [] (.fork 1 (.first 2 [3, 4, 5, 6, 7, 8, 9, 10, 11, 12, 13, 14, 15, 16, 17] [] (.first 3 [4, 5, 6, 7, 8, 9, 10, 11, 12, 13, 14, 15, 16, 17] [] (.first 4 [5, 6, 7, 8, 9, 10, 11, 12, 13, 14, 15, 16, 17] [] (.first 5 [6, 7, 8, 9, 10, 11, 12, 13, 14, 15, 16, 17] [] (.first 6 [7, 8, 9, 10, 11, 12, 13, 14, 15, 16, 17] [] (.first 7 [10, 11, 12, 15, 16, 17] [8, 9, 13, 14] (.first 8 [9, 10, 11, 12, 15, 16, 17] [13, 14] (.first 9 [10, 11, 12, 15, 16, 17] [13, 14] (.first 10 [11, 12, 15, 16, 17] [13, 14] (.first 11 [12, 15, 16, 17] [13, 14] (.first 12 [15, 16, 17] [13, 14] (.first 13 [14, 15, 16, 17] [] (.first 14 [15, 16, 17] [] (.first 15 [16, 17] [] (.first 16 [17] [] (.first 17 [] [] (.done))))))))))))))))) (.stop)))] }
def fc154 : FCfg := { par := [.cst false, .cst false], inn := [(7, some ([], []))], out := [(4, some ([0, 1, 7, 8, 9, 25], []))], loopK := [(2, ([0, 1, 7, 8, 9], []))], frz := [], sch := [] }
def fc155 : FCfg := { par := [.cst false, .cst false], inn := [(7, some ([5], []))], out := [], loopK := [(3, ([3, 5, 9, 10, 11], [3]))], frz := [], sch := [] }
def fc177 : FCfg := { par := [.row, .cst false], inn := [], out := [], loopK := [], frz := [], sch := [] }
def fc183 : FCfg := { par := [.ptr [.imm, .imm, .imm], .cst false], inn := [], out := [], loopK := [], frz := [], sch := [] }
def fc184 : FCfg := { par := [.ptr [.imm, .imm, .imm], .cst false], inn := [(4, some ([0, 1, 5], [0])), (6, some ([1, 5], [0]))], out := [], loopK := [], frz := [], sch := [] }
def fc208 : FCfg := { par := [.cst false], inn := [], out := [], loopK := [], frz := [], sch := [] }
def fc226 : FCfg := { par := [.ptr [.imm, .imm, .imm], .cst false], inn := [(2, some ([0, 4, 5], [0, 4, 5])), (6, some ([4, 5], [0, 4, 5]))], out := [(5, some ([0, 4, 5, 6], [0, 4, 5]))], loopK := [(3, ([0, 4, 5, 6], [0, 4, 5]))], frz := [], sch := [(5, .first 2 [4, 5, 6, 7, 8] [0, 1, 3] (.first 0 [1, 6, 7, 8] [3, 4, 5] (.first 1 [6, 7, 8] [3, 4, 5] (.fork 3 (.fork 4 (.fork 5 (.fork 6 (.first 7 [8] [] (.fork 8 (.done) (.stop))) (.stop)) (.stop)) (.stop)) (.stop)))))] }
def fc227 : FCfg := { par := [.ptr [.imm, .imm, .imm]], inn := [(2, some ([0, 2, 3], [0, 2, 3])), (3, some ([0, 2, 3, 10], [0, 2, 3])), (9, some ([2, 3], [0, 2, 3]))], out := [(4, some ([2, 3], [0, 2, 3]))], loopK := [], frz := [], sch := [(4, .first 2 [4, 5, 6] [0, 1, 3] (.first 0 [1, 5, 6] [3, 4] (.first 1 [5, 6] [3, 4] (.fork 3 (.fork 4 (.first 5 [6] [] (.fork 6 (.done) (.stop))) (.stop)) (.stop)))))] }
def fc228 : FCfg := { par := [.cst false], inn := [], out := [(1, some ([2], []))], loopK := [], frz := [], sch := [] }
def fc229 : FCfg := { par := [.cst false, .cst false], inn := [], out := [(1, some ([6], []))], loopK := [], frz := [], sch := [(1, .first 0 [2, 3, 5, 11, 12, 13] [1, 4, 6, 7, 8, 9, 10] (.first 1 [2, 3, 5, 11, 12, 13] [4, 6, 7, 8, 9, 10] (.first 2 [3, 5, 11, 12, 13] [4, 6, 7, 8, 9, 10] (.first 3 [5, 11, 12, 13] [4, 6, 7, 8, 9, 10] (.first 4 [5, 11, 12, 13] [6, 7, 8, 9, 10] (.first 6 [8, 9, 11, 12, 13] [5, 7, 10] (.first 7 [8, 9, 11, 12, 13] [5, 10] (.first 8 [9, 11, 12, 13] [5, 10] (.first 9 [11, 12, 13] [5, 10] (.first 10 [11, 12, 13] [5] (.fork 5 (.fork 11 (.first 12 [13] [] (.fork 13 (.done) (.stop))) (.stop)) (.stop))))))))))))] }
def fc230 : FCfg := { par := [.cst false, .cst false], inn := [(7, some ([], []))], out := [], loopK := [(2, ([0, 1, 7, 8], []))], frz := [], sch := [] }
def fc239 : FCfg := { par := [.ptr [.imm, .imm, .imm], .cst false], inn := [], out := [], loopK := [], frz := [], sch := [] }
def fc245 : FCfg := { par := [.row, .cst false, .cst false], inn := [(4, some ([0, 1, 2, 6, 8], [0])), (6, some ([0, 1, 2, 6, 7], [0])), (11, some ([0, 1, 2, 6, 8], [0])), (13, some ([0, 1, 2, 6, 7], [0])), (16, some ([0, 1, 2, 6], [0]))], out := [], loopK := [(2, ([0, 1, 2, 6, 7, 8], [0])), (7, ([0, 1, 2, 6], [0])), (9, ([0, 1, 2, 6, 7, 8], [0]))], frz := [], sch := [] }
def fc248 : FCfg := { par := [.ptr [.imm, .imm, .imm]], inn := [(4, some ([0, 3], [0])), (5, some ([0, 3], [0])), (6, some ([0, 3], [0]))], out := [(2, some ([0, 3, 13], [0])), (3, some ([0, 3], [0])), (6, some ([0, 3, 53], [0]))], loopK := [], frz := [], sch := [(2, .first 0 [1, 2, 3, 9] [4, 5, 6, 7, 8] (.first 1 [2, 3, 9] [4, 5, 6, 7, 8] (.first 2 [3, 9] [4, 5, 6, 7, 8] (.first 3 [9] [4, 5, 6, 7, 8] (.first 4 [5, 6, 7, 8, 9] [] (.first 5 [6, 7, 8, 9] [] (.first 6 [7, 8, 9] [] (.first 7 [8, 9] [] (.first 8 [9] [] (.first 9 [] [] (.done))))))))))), (3, .first 0 [1, 2, 3, 8, 9, 10, 11] [4, 5, 6, 7] (.first 1 [2, 3, 8, 9, 10, 11] [4, 5, 6, 7] (.first 2 [3, 8, 9, 10, 11] [4, 5, 6, 7] (.first 3 [8, 9, 10, 11] [4, 5, 6, 7] (.first 4 [5, 6, 7, 8, 9, 10, 11] [] (.first 5 [6, 7, 8, 9, 10, 11] [] (.first 6 [7, 8, 9, 10, 11] [] (.first 7 [8, 9, 10, 11] [] (.first 8 [9, 10, 11] [] (.first 9 [10, 11] [] (.fork 10 (.fork 11 (.done) (.stop)) (.stop)))))))))))), (6, .first 0 [1, 2, 3, 9] [4, 5, 6, 7, 8] (.first 1 [2, 3, 9] [4, 5, 6, 7, 8] (.first 2 [3, 9] [4, 5, 6, 7, 8] (.first 3 [9] [4, 5, 6, 7, 8] (.first 4 [5, 6, 7, 8, 9] [] (.first 5 [6, 7, 8, 9] [] (.first 6 [7, 8, 9] [] (.first 7 [8, 9] [] (.first 8 [9] [] (.first 9 [] [] (.done)))))))))))] }
def fc250 : FCfg := { par := [.cst false], inn := [(8, some ([], []))], out := [(1, some ([0, 21], [])), (6, some ([0, 3, 49], []))], loopK := [(4, ([0, 3], []))], frz := [], sch := [] }
def fc266 : FCfg := { par := [.cst false], inn := [], out := [], loopK := [], frz := [], sch := [] }
def fc274 : FCfg := { par := [.row, .cst false, .cst false, .cst false], inn := [(2, some ([0, 1, 2, 3, 8], [0]))], out := [(4, some ([0, 1, 2, 3, 8, 9, 34], [0])), (6, some ([0, 1, 2, 3, 8, 9], [0]))], loopK := [(1, ([0, 1, 2, 3, 8], [0])), (4, ([0, 1, 2, 3, 8, 9], [0]))], frz := [], sch := [(4, .first 0 [2, 3, 4, 5, 6, 7, 8, 9, 10, 11, 12, 13, 14, 15, 16] [1] (.first 1 [2, 3, 4, 5, 6, 7, 8, 9, 10, 11, 12, 13, 14, 15, 16] [] (.first 2 [3, 4, 5, 6, 7, 8, 9, 10, 11, 12, 13, 14, 15, 16] [] (.first 3 [4, 5, 6, 7, 8, 9, 10, 11, 12, 13, 14, 15, 16] [] (.first 4 [14, 15, 16] [5, 6, 7, 8, 9, 10, 11, 12, 13] (.first 5 [7, 8, 14, 15, 16] [6, 9, 10, 11, 12, 13] (.first 6 [7, 8, 14, 15, 16] [9, 10, 11, 12, 13] (.first 7 [8, 14, 15, 16] [9, 10, 11, 12, 13] (.first 8 [14, 15, 16] [9, 10, 11, 12, 13] (.first 9 [12, 13, 14, 15, 16] [10, 11] (.first 10 [11, 12, 13, 14, 15, 16] [] (.first 11 [12, 13, 14, 15, 16] [] (.first 12 [13, 14, 15, 16] [] (.first 13 [14, 15, 16] [] (.fork 14 (.first 15 [16] [] (.first 16 [] [] (.done))) (.stop)))))))))))))))), (6, .first 0 [14, 15, 16, 17] [1, 2, 3, 4, 5, 6, 7, 8, 9, 10, 11, 12, 13] (.first 1 [14, 15, 16, 17] [2, 3, 4, 5, 6, 7, 8, 9, 10, 11, 12, 13] (.first 2 [16, 17] [3, 4, 5, 6, 7, 8, 9, 10, 11, 12, 13, 14, 15] (.first 3 [4, 16, 17] [5, 6, 7, 8, 9, 10, 11, 12, 13, 14, 15] (.first 4 [16, 17] [5, 6, 7, 8, 9, 10, 11, 12, 13, 14, 15] (.first 5 [8, 9, 14, 15, 16, 17] [6, 7, 10, 11, 12, 13] (.first 6 [7, 8, 9, 14, 15, 16, 17] [10, 11, 12, 13] (.first 7 [8, 9, 14, 15, 16, 17] [10, 11, 12, 13] (.first 8 [9, 14, 15, 16, 17] [10, 11, 12, 13] (.first 9 [14, 15, 16, 17] [10, 11, 12, 13] (.first 10 [12, 13, 14, 15, 16, 17] [11] (.first 11 [12, 13, 14, 15, 16, 17] [] (.first 12 [13, 14, 15, 16, 17] [] (.first 13 [14, 15, 16, 17] [] (.first 14 [15, 16, 17] [] (.fork 15 (.first 16 [17] [] (.fork 17 (.done) (.stop))) (.stop)))))))))))))))))] }
def fc275 : FCfg := { par := [.row, .cst false, .cst false, .cst false, .cst false], inn := [(8, some ([0, 1, 10], [0])), (20, some ([0, 2, 14], [0])), (32, some ([0, 1, 2, 3, 4, 18, 19, 20, 21], [0])), (38, some ([0, 1, 2, 3, 4, 18, 19, 20], [0])), (41, some ([0, 1, 3, 4, 18, 20, 24], [0])), (43, some ([0, 3, 4, 18, 24], [0]))], out := [(5, some ([0, 1, 4, 10, 11, 12, 50], [0])), (11, some ([0, 10, 13], [0])), (17, some ([0, 2, 4, 14, 15, 16, 103], [0])), (23, some ([0, 14, 17], [0])), (35, some ([0, 1, 2, 3, 4, 18, 19, 20, 21, 22, 23, 171], [0])), (39, some ([0, 1, 2, 3, 4, 18, 20, 24, 185], [0])), (41, some ([0, 1, 3, 4, 18, 20, 24, 199], [0])), (43, some ([0, 3, 4, 18, 24, 213], [0]))], loopK := [(3, ([0, 1, 4, 10, 11], [0])), (9, ([0, 10, 13], [0])), (15, ([0, 2, 4, 14, 15], [0])), (21, ([0, 14, 17], [0])), (33, ([0, 1, 2, 3, 4, 18, 19, 20, 21, 22], [0]))], frz := [], sch := [(5, .first 0 [9, 10] [1, 2, 3, 4, 5, 6, 7, 8] (.first 1 [3, 4, 9, 10] [2, 5, 6, 7, 8] (.first 2 [3, 4, 9, 10] [5, 6, 7, 8] (.first 3 [4, 9, 10] [5, 6, 7, 8] (.first 4 [9, 10] [5, 6, 7, 8] (.first 5 [7, 8, 9, 10] [6] (.first 6 [7, 8, 9, 10] [] (.first 7 [8, 9, 10] [] (.first 8 [9, 10] [] (.fork 9 (.first 10 [] [] (.done)) (.stop))))))))))), (11, .first 0 [14, 15, 16, 17] [1, 2, 3, 4, 5, 6, 7, 8, 9, 10, 11, 12, 13] (.first 1 [14, 15, 16, 17] [2, 3, 4, 5, 6, 7, 8, 9, 10, 11, 12, 13] (.first 2 [16, 17] [3, 4, 5, 6, 7, 8, 9, 10, 11, 12, 13, 14, 15] (.first 3 [4, 16, 17] [5, 6, 7, 8, 9, 10, 11, 12, 13, 14, 15] (.first 4 [16, 17] [5, 6, 7, 8, 9, 10, 11, 12, 13, 14, 15] (.first 5 [8, 9, 14, 15, 16, 17] [6, 7, 10, 11, 12, 13] (.first 6 [7, 8, 9, 14, 15, 16, 17] [10, 11, 12, 13] (.first 7 [8, 9, 14, 15, 16, 17] [10, 11, 12, 13] (.first 8 [9, 14, 15, 16, 17] [10, 11, 12, 13] (.first 9 [14, 15, 16, 17] [10, 11, 12, 13] (.first 10 [12, 13, 14, 15, 16, 17] [11] (.first 11 [12, 13, 14, 15, 16, 17] [] (.first 12 [13, 14, 15, 16, 17] [] (.first 13 [14, 15, 16, 17] [] (.first 14 [15, 16, 17] [] (.fork 15 (.first 16 [17] [] (.fork 17 (.done) (.stop))) (.stop))))))))))))))))), (17, .first 0 [9, 10, 11] [1, 2, 3, 4, 5, 6, 7, 8] (.first 1 [3, 4, 9, 10, 11] [2, 5, 6, 7, 8] (.first 2 [3, 4, 9, 10, 11] [5, 6, 7, 8] (.first 3 [4, 9, 10, 11] [5, 6, 7, 8] (.first 4 [9, 10, 11] [5, 6, 7, 8] (.first 5 [7, 8, 9, 10, 11] [6] (.first 6 [7, 8, 9, 10, 11] [] (.first 7 [8, 9, 10, 11] [] (.first 8 [9, 10, 11] [] (.fork 9 (.first 10 [11] [] (.first 11 [] [] (.done))) (.stop))))))))))), (23, .first 0 [14, 15, 16, 17] [1, 2, 3, 4, 5, 6, 7, 8, 9, 10, 11, 12, 13] (.first 1 [14, 15, 16, 17] [2, 3, 4, 5, 6, 7, 8, 9, 10, 11, 12, 13] (.first 2 [16, 17] [3, 4, 5, 6, 7, 8, 9, 10, 11, 12, 13, 14, 15] (.first 3 [4, 16, 17] [5, 6, 7, 8, 9, 10, 11, 12, 13, 14, 15] (.first 4 [16, 17] [5, 6, 7, 8, 9, 10, 11, 12, 13, 14, 15] (.first 5 [8, 9, 14, 15, 16, 17] [6, 7, 10, 11, 12, 13] (.first 6 [7, 8, 9, 14, 15, 16, 17] [10, 11, 12, 13] (.first 7 [8, 9, 14, 15, 16, 17] [10, 11, 12, 13] (.first 8 [9, 14, 15, 16, 17] [10, 11, 12, 13] (.first 9 [14, 15, 16, 17] [10, 11, 12, 13] (.first 10 [12, 13, 14, 15, 16, 17] [11] (.first 11 [12, 13, 14, 15, 16, 17] [] (.first 12 [13, 14, 15, 16, 17] [] (.first 13 [14, 15, 16, 17] [] (.first 14 [15, 16, 17] [] (.fork 15 (.first 16 [17] [] (.fork 17 (.done) (.stop))) (.stop))))))))))))))))), (35, .first 0 [11, 12, 13] [1, 2, 3, 4, 5, 6, 7, 8, 9, 10] (.first 1 [5, 6, 11, 12, 13] [2, 3, 4, 7, 8, 9, 10] (.first 2 [4, 5, 6, 11, 12, 13] [3, 7, 8, 9, 10] (.first 3 [4, 5, 6, 11, 12, 13] [7, 8, 9, 10] (.first 4 [5, 6, 11, 12, 13] [7, 8, 9, 10] (.first 5 [6, 11, 12, 13] [7, 8, 9, 10] (.first 6 [11, 12, 13] [7, 8, 9, 10] (.first 7 [9, 10, 11, 12, 13] [8] (.first 8 [9, 10, 11, 12, 13] [] (.first 9 [10, 11, 12, 13] [] (.first 10 [11, 12, 13] [] (.fork 11 (.first 12 [13] [] (.first 13 [] [] (.done))) (.stop)))))))))))))] }
def fc285 : FCfg := { par := [.row, .cst false, .cst false, .cst false, .cst false], inn := [(5, some ([0, 2, 4, 10, 11], [0])), (7, some ([0, 2, 4, 10, 11], [0])), (8, some ([0, 2, 4, 10], [0]))], out := [], loopK := [(2, ([0, 2, 4, 10, 11], [0]))], frz := [], sch := [] }
def fc287 : FCfg := { par := [.row, .cst false, .cst false, .cst false, .cst false], inn := [], out := [(3, some ([0, 1, 2, 3, 10], [0]))], loopK := [(1, ([0, 1, 2, 3, 10], [0]))], frz := [], sch := [(3, .first 0 [20, 21, 22, 23] [1, 2, 3, 4, 5, 6, 7, 8, 9, 10, 11, 12, 13, 14, 15, 16, 17, 18, 19] (.first 1 [3, 20, 21, 22, 23] [2, 4, 5, 6, 7, 8, 9, 10, 11, 12, 13, 14, 15, 16, 17, 18, 19] (.first 2 [3, 20, 21, 22, 23] [4, 5, 6, 7, 8, 9, 10, 11, 12, 13, 14, 15, 16, 17, 18, 19] (.first 3 [20, 21, 22, 23] [4, 5, 6, 7, 8, 9, 10, 11, 12, 13, 14, 15, 16, 17, 18, 19] (.first 4 [22, 23] [5, 6, 7, 8, 9, 10, 11, 12, 13, 14, 15, 16, 17, 18, 19, 20, 21] (.first 5 [7, 22, 23] [6, 8, 9, 10, 11, 12, 13, 14, 15, 16, 17, 18, 19, 20, 21] (.first 6 [7, 22, 23] [8, 9, 10, 11, 12, 13, 14, 15, 16, 17, 18, 19, 20, 21] (.first 7 [22, 23] [8, 9, 10, 11, 12, 13, 14, 15, 16, 17, 18, 19, 20, 21] (.first 8 [12, 13, 20, 21, 22, 23] [9, 10, 11, 14, 15, 16, 17, 18, 19] (.first 9 [11, 12, 13, 20, 21, 22, 23] [10, 14, 15, 16, 17, 18, 19] (.first 10 [11, 12, 13, 20, 21, 22, 23] [14, 15, 16, 17, 18, 19] (.first 11 [12, 13, 20, 21, 22, 23] [14, 15, 16, 17, 18, 19] (.first 12 [13, 20, 21, 22, 23] [14, 15, 16, 17, 18, 19] (.first 13 [20, 21, 22, 23] [14, 15, 16, 17, 18, 19] (.first 14 [18, 19, 20, 21, 22, 23] [15, 16, 17] (.first 15 [17, 18, 19, 20, 21, 22, 23] [16] (.first 16 [17, 18, 19, 20, 21, 22, 23] [] (.first 17 [18, 19, 20, 21, 22, 23] [] (.first 18 [19, 20, 21, 22, 23] [] (.first 19 [20, 21, 22, 23] [] (.first 20 [21, 22, 23] [] (.fork 21 (.first 22 [23] [] (.fork 23 (.done) (.stop))) (.stop)))))))))))))))))))))))] }
def fcs : List (Nat × FCfg) := [(10, fc10), (14, fc14), (50, fc50), (65, fc65), (66, fc66), (67, fc67), (85, fc85), (87, fc87), (92, fc92), (95, fc95), (99, fc99), (130, fc130), (131, fc131), (148, fc148), (149, fc149), (150, fc150), (151, fc151), (152, fc152), (153, fc153), (154, fc154), (155, fc155), (177, fc177), (183, fc183), (184, fc184), (208, fc208), (226, fc226), (227, fc227), (228, fc228), (229, fc229), (230, fc230), (239, fc239), (245, fc245), (248, fc248), (250, fc250), (266, fc266), (274, fc274), (275, fc275), (285, fc285), (287, fc287)]
def ons : List (Nat × Bool) := [(10, true), (14, true), (50, true), (65, true), (66, true), (67, true), (85, true), (87, true), (92, true), (95, true), (99, true), (130, true), (131, true), (148, true), (149, true), (150, true), (151, true), (152, true), (153, true), (154, true), (155, true), (177, true), (183, true), (184, true), (208, true), (226, true), (227, true), (228, true), (229, true), (230, true), (239, true), (245, true), (248, true), (250, true), (266, true), (274, true), (275, true), (285, true), (287, true)]
def cfg : Cfg := mkCfg ons fcs [(187, some (extCloneN 1 8))]
theorem c10 : cfg.fc 10 = fc10 := rfl
theorem z10 : (cfg.fc 10).frz = [] := rfl
theorem c14 : cfg.fc 14 = fc14 := rfl
theorem z14 : (cfg.fc 14).frz = [] := rfl
theorem c50 : cfg.fc 50 = fc50 := rfl
theorem z50 : (cfg.fc 50).frz = [] := rfl
theorem c65 : cfg.fc 65 = fc65 := rfl
theorem z65 : (cfg.fc 65).frz = [] := rfl
theorem c66 : cfg.fc 66 = fc66 := rfl
theorem z66 : (cfg.fc 66).frz = [] := rfl
theorem c67 : cfg.fc 67 = fc67 := rfl
theorem z67 : (cfg.fc 67).frz = [] := rfl
theorem c85 : cfg.fc 85 = fc85 := rfl
theorem z85 : (cfg.fc 85).frz = [] := rfl
theorem c87 : cfg.fc 87 = fc87 := rfl
theorem z87 : (cfg.fc 87).frz = [] := rfl
theorem c92 : cfg.fc 92 = fc92 := rfl
theorem z92 : (cfg.fc 92).frz = [] := rfl
theorem c95 : cfg.fc 95 = fc95 := rfl
theorem z95 : (cfg.fc 95).frz = [] := rfl
theorem c99 : cfg.fc 99 = fc99 := rfl
theorem z99 : (cfg.fc 99).frz = [] := rfl
theorem c130 : cfg.fc 130 = fc130 := rfl
theorem z130 : (cfg.fc 130).frz = [] := rfl
theorem c131 : cfg.fc 131 = fc131 := rfl
theorem z131 : (cfg.fc 131).frz = [] := rfl
theorem c148 : cfg.fc 148 = fc148 := rfl
theorem z148 : (cfg.fc 148).frz = [] := rfl
theorem c149 : cfg.fc 149 = fc149 := rfl
theorem z149 : (cfg.fc 149).frz = [] := rfl
theorem c150 : cfg.fc 150 = fc150 := rfl
theorem z150 : (cfg.fc 150).frz = [] := rfl
theorem c151 : cfg.fc 151 = fc151 := rfl
theorem z151 : (cfg.fc 151).frz = [] := rfl
theorem c152 : cfg.fc 152 = fc152 := rfl
theorem z152 : (cfg.fc 152).frz = [] := rfl
theorem c153 : cfg.fc 153 = fc153 := rfl
theorem z153 : (cfg.fc 153).frz = [] := rfl
theorem c154 : cfg.fc 154 = fc154 := rfl
theorem z154 : (cfg.fc 154).frz = [] := rfl
theorem c155 : cfg.fc 155 = fc155 := rfl
theorem z155 : (cfg.fc 155).frz = [] := rfl
theorem c177 : cfg.fc 177 = fc177 := rfl
theorem z177 : (cfg.fc 177).frz = [] := rfl
theorem c183 : cfg.fc 183 = fc183 := rfl
theorem z183 : (cfg.fc 183).frz = [] := rfl
theorem c184 : cfg.fc 184 = fc184 := rfl
theorem z184 : (cfg.fc 184).frz = [] := rfl
theorem c208 : cfg.fc 208 = fc208 := rfl
theorem z208 : (cfg.fc 208).frz = [] := rfl
theorem c226 : cfg.fc 226 = fc226 := rfl
theorem z226 : (cfg.fc 226).frz = [] := rfl
theorem c227 : cfg.fc 227 = fc227 := rfl
theorem z227 : (cfg.fc 227).frz = [] := rfl
theorem c228 : cfg.fc 228 = fc228 := rfl
theorem z228 : (cfg.fc 228).frz = [] := rfl
theorem c229 : cfg.fc 229 = fc229 := rfl
theorem z229 : (cfg.fc 229).frz = [] := rfl
theorem c230 : cfg.fc 230 = fc230 := rfl
theorem z230 : (cfg.fc 230).frz = [] := rfl
theorem c239 : cfg.fc 239 = fc239 := rfl
theorem z239 : (cfg.fc 239).frz = [] := rfl
theorem c245 : cfg.fc 245 = fc245 := rfl
theorem z245 : (cfg.fc 245).frz = [] := rfl
theorem c248 : cfg.fc 248 = fc248 := rfl
theorem z248 : (cfg.fc 248).frz = [] := rfl
theorem c250 : cfg.fc 250 = fc250 := rfl
theorem z250 : (cfg.fc 250).frz = [] := rfl
theorem c266 : cfg.fc 266 = fc266 := rfl
theorem z266 : (cfg.fc 266).frz = [] := rfl
theorem c274 : cfg.fc 274 = fc274 := rfl
theorem z274 : (cfg.fc 274).frz = [] := rfl
theorem c275 : cfg.fc 275 = fc275 := rfl
theorem z275 : (cfg.fc 275).frz = [] := rfl
theorem c285 : cfg.fc 285 = fc285 := rfl
theorem z285 : (cfg.fc 285).frz = [] := rfl
theorem c287 : cfg.fc 287 = fc287 := rfl
theorem z287 : (cfg.fc 287).frz = [] := rfl
theorem bF194 : buildF Try.prog 194 = some ([.im 0 (.sc (.string ⟨#[]⟩)), .nil], [(0, 1), (1, 1)]) := by kernel_rfl
theorem bF199 : buildF Try.prog 199 = some ([.nil, .nil, .im 0 (.sc (.int .i64 0)), .im 0 (.sc (.bool false)), .nil, .im 0 (.sc (.int .i64 0))], [(0, 1), (1, 1), (2, 1), (3, 1), (4, 1), (5, 1)]) := by kernel_rfl
theorem bF283 : buildF Try.prog 283 = some ([.nil, .im 0 (.sc (.int .i64 0)), .im 0 (.sc (.int .u64 0))], [(0, 1), (1, 1), (2, 1)]) := by kernel_rfl
theorem eF27 : elemSz Try.prog 27 = some (2, 1) := by kernel_rfl
theorem eF73 : elemSz Try.prog 73 = some (194, 2) := by kernel_rfl
theorem fF194_0 : fieldF Try.prog 194 0 = some 0 := by kernel_rfl
theorem fF194_1 : fieldF Try.prog 194 1 = some 1 := by kernel_rfl
theorem fF199_0 : fieldF Try.prog 199 0 = some 0 := by kernel_rfl
theorem fF199_1 : fieldF Try.prog 199 1 = some 1 := by kernel_rfl
theorem fF199_2 : fieldF Try.prog 199 2 = some 2 := by kernel_rfl
theorem fF199_3 : fieldF Try.prog 199 3 = some 3 := by kernel_rfl
theorem fF199_4 : fieldF Try.prog 199 4 = some 4 := by kernel_rfl
theorem fF199_5 : fieldF Try.prog 199 5 = some 5 := by kernel_rfl
theorem fF283_0 : fieldF Try.prog 283 0 = some 0 := by kernel_rfl
theorem fF283_1 : fieldF Try.prog 283 1 = some 1 := by kernel_rfl
theorem fF283_2 : fieldF Try.prog 283 2 = some 2 := by kernel_rfl
theorem kF130_73_73_2 : callK Try.prog cfg 130 0 [73, 73, 2] = [(.cst false, [some 2]), (.cst false, [some 2]), (.cst false, [none])] := by kernel_rfl
theorem kF131_197_27_2 : callK Try.prog cfg 131 0 [197, 27, 2] = [(.ptr [.imm, .imm, .imm, .imm, .sh, .imm], [none]), (.mv, [some 1]), (.cst false, [none])] := by kernel_rfl
theorem kF148_121 : callK Try.prog cfg 148 0 [121] = [(.ptr [.imm, .imm, .imm], [none])] := by kernel_rfl
theorem kF149_73_194 : callK Try.prog cfg 149 0 [73, 194] = [(.cst false, [some 2]), (.cst false, [none, some 1])] := by kernel_rfl
theorem kF14_22 : callK Try.prog cfg 14 0 [22] = [(.cst false, [some 1])] := by kernel_rfl
theorem kF150_27_139 : callK Try.prog cfg 150 0 [27, 139] = [(.cst false, [some 1]), (.cst false, [none])] := by kernel_rfl
theorem kF151_2_0 : callK Try.prog cfg 151 0 [2, 0] = [(.cst false, [none]), (.cst false, [none])] := by kernel_rfl
theorem kF152_27_2 : callK Try.prog cfg 152 0 [27, 2] = [(.cst false, [some 1]), (.cst false, [none])] := by kernel_rfl
theorem kF153_73 : callK Try.prog cfg 153 0 [73] = [(.cst false, [some 2])] := by kernel_rfl
theorem kF154_27_3 : callK Try.prog cfg 154 0 [27, 3] = [(.cst false, [some 1]), (.cst false, [none])] := by kernel_rfl
theorem kF155_194_194 : callK Try.prog cfg 155 0 [194, 194] = [(.cst false, [none, some 1]), (.cst false, [none, some 1])] := by kernel_rfl
theorem kF177_27_273 : callK Try.prog cfg 177 0 [27, 273] = [(.row, [some 1]), (.cst false, [none])] := by kernel_rfl
theorem kF183_121_2 : callK Try.prog cfg 183 0 [121, 2] = [(.ptr [.imm, .imm, .imm], [none]), (.cst false, [none])] := by kernel_rfl
theorem kF184_121_2 : callK Try.prog cfg 184 0 [121, 2] = [(.ptr [.imm, .imm, .imm], [none]), (.cst false, [none])] := by kernel_rfl
theorem kF187_27 : callK Try.prog cfg 187 0 [27] = [(.cst false, [some 1])] := by kernel_rfl
theorem kF208_2 : callK Try.prog cfg 208 0 [2] = [(.cst false, [none])] := by kernel_rfl
theorem kF226_121_9 : callK Try.prog cfg 226 0 [121, 9] = [(.ptr [.imm, .imm, .imm], [none]), (.cst false, [none])] := by kernel_rfl
theorem kF227_121 : callK Try.prog cfg 227 0 [121] = [(.ptr [.imm, .imm, .imm], [none])] := by kernel_rfl
theorem kF228_194 : callK Try.prog cfg 228 0 [194] = [(.cst false, [none, some 1])] := by kernel_rfl
theorem kF229_2_2_0_0 : callK Try.prog cfg 229 0 [2, 2, 0, 0] = [(.cst false, [none]), (.cst false, [none]), (.cst false, [none]), (.cst false, [none])] := by kernel_rfl
theorem kF230_27_2 : callK Try.prog cfg 230 0 [27, 2] = [(.cst false, [some 1]), (.cst false, [none])] := by kernel_rfl
theorem kF239_121_296 : callK Try.prog cfg 239 0 [121, 296] = [(.ptr [.imm, .imm, .imm], [none]), (.cst false, [some 1])] := by kernel_rfl
theorem kF245_27_3_273 : callK Try.prog cfg 245 0 [27, 3, 273] = [(.row, [some 1]), (.cst false, [none]), (.cst false, [none])] := by kernel_rfl
theorem kF248_121 : callK Try.prog cfg 248 0 [121] = [(.ptr [.imm, .imm, .imm], [none])] := by kernel_rfl
theorem kF250_9 : callK Try.prog cfg 250 0 [9] = [(.cst false, [none])] := by kernel_rfl
theorem kF266_2 : callK Try.prog cfg 266 0 [2] = [(.cst false, [none])] := by kernel_rfl
theorem kF274_27_3_3_273 : callK Try.prog cfg 274 0 [27, 3, 3, 273] = [(.row, [some 1]), (.cst false, [none]), (.cst false, [none]), (.cst false, [none])] := by kernel_rfl
theorem kF275_27_3_3_3_273 : callK Try.prog cfg 275 0 [27, 3, 3, 3, 273] = [(.row, [some 1]), (.cst false, [none]), (.cst false, [none]), (.cst false, [none]), (.cst false, [none])] := by kernel_rfl
theorem kF285_27_3_3_3_273 : callK Try.prog cfg 285 0 [27, 3, 3, 3, 273] = [(.row, [some 1]), (.cst false, [none]), (.cst false, [none]), (.cst false, [none]), (.cst false, [none])] := by kernel_rfl
theorem kF287_27_3_3_3_273 : callK Try.prog cfg 287 0 [27, 3, 3, 3, 273] = [(.row, [some 1]), (.cst false, [none]), (.cst false, [none]), (.cst false, [none]), (.cst false, [none])] := by kernel_rfl
theorem kF50_73_73_2 : callK Try.prog cfg 50 0 [73, 73, 2] = [(.cst false, [some 2]), (.cst false, [some 2]), (.cst false, [none])] := by kernel_rfl
theorem kF65_22 : callK Try.prog cfg 65 0 [22] = [(.cst false, [some 1])] := by kernel_rfl
theorem kF66_73_73 : callK Try.prog cfg 66 0 [73, 73] = [(.cst false, [some 2]), (.cst false, [some 2])] := by kernel_rfl
theorem kF67_73_73_27 : callK Try.prog cfg 67 0 [73, 73, 27] = [(.cst false, [some 2]), (.cst false, [some 2]), (.cst false, [some 1])] := by kernel_rfl
theorem kF85_22 : callK Try.prog cfg 85 0 [22] = [(.cst false, [some 1])] := by kernel_rfl
theorem kF87_121 : callK Try.prog cfg 87 0 [121] = [(.ptr [.imm, .imm, .imm], [none])] := by kernel_rfl
theorem kF92_2_2_2 : callK Try.prog cfg 92 0 [2, 2, 2] = [(.cst false, [none]), (.cst false, [none]), (.cst false, [none])] := by kernel_rfl
theorem kF95_27_139 : callK Try.prog cfg 95 0 [27, 139] = [(.cst false, [some 1]), (.cst false, [none])] := by kernel_rfl
theorem kF99_121_27 : callK Try.prog cfg 99 0 [121, 27] = [(.ptr [.imm, .imm, .imm], [none]), (.cst false, [some 1])] := by kernel_rfl
theorem rF10 : resK Try.prog (Try.f10.results.toList.zip Try.f10.resultTypes.toList) = [(.tmp 2, [none], none)] := by kernel_rfl
theorem rF130 : resK Try.prog (Try.f130.results.toList.zip Try.f130.resultTypes.toList) = [(.tmp 6, [none], none)] := by kernel_rfl
theorem rF131 : resK Try.prog (Try.f131.results.toList.zip Try.f131.resultTypes.toList) = [(.tmp 6, [none], none)] := by kernel_rfl
theorem rF14 : resK Try.prog (Try.f14.results.toList.zip Try.f14.resultTypes.toList) = [(.tmp 2, [none], none)] := by kernel_rfl
theorem rF148 : resK Try.prog (Try.f148.results.toList.zip Try.f148.resultTypes.toList) = [(.tmp 2, [some 2], none)] := by kernel_rfl
theorem rF149 : resK Try.prog (Try.f149.results.toList.zip Try.f149.resultTypes.toList) = [(.tmp 4, [some 1], none), (.tmp 5, [none], none)] := by kernel_rfl
theorem rF150 : resK Try.prog (Try.f150.results.toList.zip Try.f150.resultTypes.toList) = [(.tmp 4, [none], none)] := by kernel_rfl
theorem rF151 : resK Try.prog (Try.f151.results.toList.zip Try.f151.resultTypes.toList) = [(.tmp 3, [none], none)] := by kernel_rfl
theorem rF152 : resK Try.prog (Try.f152.results.toList.zip Try.f152.resultTypes.toList) = [(.tmp 4, [none], none)] := by kernel_rfl
theorem rF153 : resK Try.prog (Try.f153.results.toList.zip Try.f153.resultTypes.toList) = [(.tmp 2, [none], none)] := by kernel_rfl
theorem rF154 : resK Try.prog (Try.f154.results.toList.zip Try.f154.resultTypes.toList) = [(.tmp 4, [none], none)] := by kernel_rfl
theorem rF155 : resK Try.prog (Try.f155.results.toList.zip Try.f155.resultTypes.toList) = [(.tmp 4, [none], none)] := by kernel_rfl
theorem rF177 : resK Try.prog (Try.f177.results.toList.zip Try.f177.resultTypes.toList) = [] := by kernel_rfl
theorem rF183 : resK Try.prog (Try.f183.results.toList.zip Try.f183.resultTypes.toList) = [(.tmp 4, [none], none)] := by kernel_rfl
theorem rF184 : resK Try.prog (Try.f184.results.toList.zip Try.f184.resultTypes.toList) = [(.tmp 4, [none], none)] := by kernel_rfl
theorem rF187 : resK Try.prog (Try.f187.results.toList.zip Try.f187.resultTypes.toList) = [(.tmp 2, [some 1], none)] := by kernel_rfl
theorem rF208 : resK Try.prog (Try.f208.results.toList.zip Try.f208.resultTypes.toList) = [(.tmp 2, [none], none)] := by kernel_rfl
theorem rF226 : resK Try.prog (Try.f226.results.toList.zip Try.f226.resultTypes.toList) = [(.cell 4 194, [none, some 1], some (true, 2))] := by kernel_rfl
theorem rF227 : resK Try.prog (Try.f227.results.toList.zip Try.f227.resultTypes.toList) = [(.cell 2 194, [none, some 1], some (true, 2))] := by kernel_rfl
theorem rF228 : resK Try.prog (Try.f228.results.toList.zip Try.f228.resultTypes.toList) = [(.tmp 2, [none], none)] := by kernel_rfl
theorem rF229 : resK Try.prog (Try.f229.results.toList.zip Try.f229.resultTypes.toList) = [(.tmp 6, [none], none)] := by kernel_rfl
theorem rF230 : resK Try.prog (Try.f230.results.toList.zip Try.f230.resultTypes.toList) = [(.tmp 4, [none], none)] := by kernel_rfl
theorem rF239 : resK Try.prog (Try.f239.results.toList.zip Try.f239.resultTypes.toList) = [(.tmp 4, [none], none)] := by kernel_rfl
theorem rF245 : resK Try.prog (Try.f245.results.toList.zip Try.f245.resultTypes.toList) = [] := by kernel_rfl
theorem rF248 : resK Try.prog (Try.f248.results.toList.zip Try.f248.resultTypes.toList) = [(.tmp 2, [none], none)] := by kernel_rfl
theorem rF250 : resK Try.prog (Try.f250.results.toList.zip Try.f250.resultTypes.toList) = [(.tmp 2, [none], none)] := by kernel_rfl
theorem rF266 : resK Try.prog (Try.f266.results.toList.zip Try.f266.resultTypes.toList) = [(.tmp 2, [none], none)] := by kernel_rfl
theorem rF274 : resK Try.prog (Try.f274.results.toList.zip Try.f274.resultTypes.toList) = [] := by kernel_rfl
theorem rF275 : resK Try.prog (Try.f275.results.toList.zip Try.f275.resultTypes.toList) = [] := by kernel_rfl
theorem rF285 : resK Try.prog (Try.f285.results.toList.zip Try.f285.resultTypes.toList) = [] := by kernel_rfl
theorem rF287 : resK Try.prog (Try.f287.results.toList.zip Try.f287.resultTypes.toList) = [] := by kernel_rfl
theorem rF50 : resK Try.prog (Try.f50.results.toList.zip Try.f50.resultTypes.toList) = [(.tmp 6, [some 1], none), (.tmp 7, [none], none), (.tmp 8, [none], none)] := by kernel_rfl
theorem rF65 : resK Try.prog (Try.f65.results.toList.zip Try.f65.resultTypes.toList) = [(.tmp 2, [some 2], none), (.tmp 3, [some 2], none), (.tmp 4, [none], none)] := by kernel_rfl
theorem rF66 : resK Try.prog (Try.f66.results.toList.zip Try.f66.resultTypes.toList) = [(.tmp 4, [some 1], none), (.tmp 5, [none], none)] := by kernel_rfl
theorem rF67 : resK Try.prog (Try.f67.results.toList.zip Try.f67.resultTypes.toList) = [(.tmp 6, [none], none), (.tmp 7, [none], none)] := by kernel_rfl
theorem rF85 : resK Try.prog (Try.f85.results.toList.zip Try.f85.resultTypes.toList) = [(.tmp 2, [none], none)] := by kernel_rfl
theorem rF87 : resK Try.prog (Try.f87.results.toList.zip Try.f87.resultTypes.toList) = [(.tmp 2, [none], none)] := by kernel_rfl
theorem rF92 : resK Try.prog (Try.f92.results.toList.zip Try.f92.resultTypes.toList) = [(.tmp 6, [none], none)] := by kernel_rfl
theorem rF95 : resK Try.prog (Try.f95.results.toList.zip Try.f95.resultTypes.toList) = [(.tmp 4, [none], none)] := by kernel_rfl
theorem rF99 : resK Try.prog (Try.f99.results.toList.zip Try.f99.resultTypes.toList) = [(.tmp 4, [none], none)] := by kernel_rfl
theorem sF22 : sliceF Try.prog 22 = some (5, 1, [none], false, 1, [.im 0 (.sc (.int .u8 0))]) := by kernel_rfl
theorem sF27 : sliceF Try.prog 27 = some (2, 1, [none], false, 8, [.im 0 (.sc (.int .i64 0))]) := by kernel_rfl
theorem sF296 : sliceF Try.prog 296 = some (9, 1, [none], false, 16, [.im 0 (.sc (.string ⟨#[]⟩))]) := by kernel_rfl
theorem sF73 : sliceF Try.prog 73 = some (194, 2, [none, some 1], true, 40, [.im 0 (.sc (.string ⟨#[]⟩)), .nil]) := by kernel_rfl
theorem tF194 : tyF Try.prog 194 = some ([.im 0 (.sc (.string ⟨#[]⟩)), .nil], [none, some 1], true, 2) := by kernel_rfl
theorem tF199 : tyF Try.prog 199 = some ([.nil, .nil, .im 0 (.sc (.int .i64 0)), .im 0 (.sc (.bool false)), .nil, .im 0 (.sc (.int .i64 0))], [some 2, some 2, none, none, some 1, none], true, 6) := by kernel_rfl
theorem tF2 : tyF Try.prog 2 = some ([.im 0 (.sc (.int .i64 0))], [none], false, 1) := by kernel_rfl
theorem tF22 : tyF Try.prog 22 = some ([.nil], [some 1], false, 1) := by kernel_rfl
theorem tF27 : tyF Try.prog 27 = some ([.nil], [some 1], false, 1) := by kernel_rfl
theorem tF281 : tyF Try.prog 281 = some ([.im 0 (.sc (.int .u64 0))], [none], false, 1) := by kernel_rfl
theorem tF283 : tyF Try.prog 283 = some ([.nil, .im 0 (.sc (.int .i64 0)), .im 0 (.sc (.int .u64 0))], [some 1, none, none], true, 3) := by kernel_rfl
theorem tF3 : tyF Try.prog 3 = some ([.im 0 (.sc (.int .i64 0))], [none], false, 1) := by kernel_rfl
theorem tF4 : tyF Try.prog 4 = some ([.im 0 (.sc (.bool false))], [none], false, 1) := by kernel_rfl
theorem tF5 : tyF Try.prog 5 = some ([.im 0 (.sc (.int .u8 0))], [none], false, 1) := by kernel_rfl
theorem tF73 : tyF Try.prog 73 = some ([.nil], [some 2], false, 1) := by kernel_rfl
theorem tF9 : tyF Try.prog 9 = some ([.im 0 (.sc (.string ⟨#[]⟩))], [none], false, 1) := by kernel_rfl
theorem uF2 : Try.prog.underlying 2 = some (.int .i64) := by kernel_rfl
theorem uF22 : Try.prog.underlying 22 = some (.slice 5) := by kernel_rfl
theorem uF27 : Try.prog.underlying 27 = some (.slice 2) := by kernel_rfl
theorem uF281 : Try.prog.underlying 281 = some (.int .u64) := by kernel_rfl
theorem uF296 : Try.prog.underlying 296 = some (.slice 9) := by kernel_rfl
theorem uF3 : Try.prog.underlying 3 = some (.int .i64) := by kernel_rfl
theorem uF364 : Try.prog.underlying 364 = some (.int .u64) := by kernel_rfl
theorem uF5 : Try.prog.underlying 5 = some (.int .u8) := by kernel_rfl
theorem uF73 : Try.prog.underlying 73 = some (.slice 194) := by kernel_rfl
theorem uF9 : Try.prog.underlying 9 = some .string := by kernel_rfl

theorem L_laws_b10Long {code_0 : (List Int)} {r : Bool} (h : laws_b10Long code_0 = some r) : FL Try.prog cfg 14 [.im 2 false [.row 1 (List.map (eK .u8) code_0)]] = some ([(false, [.im 0 (.sc (.bool r))])], []) := by
  unfold laws_b10Long at h
  refine FL_goS (A := [(0, .v false [.im 2 (.row 1 (List.map (eK .u8) code_0))])]) (B := [(0, none)]) (nt := 6) rfl rfl Try.func14 rfl rfl rfl rfl ?_
  refine Go.seq ?_
  refine Go.r0 c14 rfl rfl (sq z14 (oAsI rfl rfl) <| nl) ?_
  refine Unw.seq ?_
  refine Go.seq ?_
  refine Go.r0 c14 rfl rfl (sq z14 (oMv rfl rfl) <| sq z14 (oLnI rfl rfl uF22 rfl) <| sq z14 (oBi rfl rfl rfl rfl) <| sq z14 (oAsI rfl rfl) <| nl) ?_
  refine Unw.seq ?_
  refine Go.ret (Unw.ret ?_)
  cases h
  exact Fin_ret (fin_of rfl rF14 rfl (by kernel_rfl))
theorem L_spec_l00From {code_0 : (List Int)} {r : S_l00Src} (h : spec_l00From code_0 = some r) : FL Try.prog cfg 85 [.im 2 false [.row 1 (List.map (eK .u8) code_0)]] = some ([(false, [.pt true [⟨.imm, 2, .row 1 (List.map (eK .u8) r.code)⟩, ⟨.imm, 0, .sc (.int .i64 r.at_)⟩, ⟨.imm, 0, .sc (.int .u64 r.seed)⟩]])], []) := by
  unfold spec_l00From at h
  refine FL_goS (A := [(0, .v false [.im 2 (.row 1 (List.map (eK .u8) code_0))])]) (B := [(0, none)]) (nt := 6) rfl rfl Try.func85 rfl rfl rfl rfl ?_
  refine Go.seq ?_
  refine Go.r0 c85 rfl rfl (sq z85 (oAsI rfl rfl) <| nl) ?_
  refine Unw.seq ?_
  refine Go.seq ?_
  refine Go.r0 c85 rfl rfl (sq z85 (oMv rfl rfl) <| sq z85 (oBu (cs := [.im 2 _, .im 0 _, .im 0 _]) rfl bF283 rfl) <| sq z85 (oBx rfl tF283 rfl (tkI (tkI (tkI tk0)))) <| sq z85 (oAsP rfl rfl) <| nl) ?_
  refine Unw.seq ?_
  refine Go.ret (Unw.ret ?_)
  cases h
  exact Fin_ret (fin_of rfl rF85 rfl (by kernel_rfl))
theorem L_spec_l00Src_next {s_0 : S_l00Src} {r : (Int × S_l00Src)} (h : spec_l00Src_next s_0 = some r) : FL Try.prog cfg 248 [.ptr true [(.imm, .row 1 (List.map (eK .u8) s_0.code)), (.imm, .sc (.int .i64 s_0.at_)), (.imm, .sc (.int .u64 s_0.seed))]] = some ([(false, [.im 0 (.sc (.int .i64 r.1))])], [.ptr true [(.imm, .row 1 (List.map (eK .u8) r.2.code)), (.imm, .sc (.int .i64 r.2.at_)), (.imm, .sc (.int .u64 r.2.seed))]]) := by
  unfold spec_l00Src_next at h
  refine FL_goS (A := [(0, .v false [.mp 0 0 0])]) (B := [(0, some ⟨0, 0, true, true, false, true, [⟨.imm, 0, 1, .row 1 (List.map (eK .u8) s_0.code)⟩, ⟨.imm, 0, 0, .sc (.int .i64 s_0.at_)⟩, ⟨.imm, 0, 0, .sc (.int .u64 s_0.seed)⟩]⟩)]) (nt := 62) rfl rfl Try.func248 rfl rfl rfl rfl ?_
  refine Go.seq ?_
  refine Go.r0 c248 rfl rfl (sq z248 (oAsI rfl rfl) <| nl) ?_
  refine Unw.seq ?_
  refine Go.seq ?_
  refine Go.r0 c248 rfl rfl (sq z248 (oAsI rfl rfl) <| nl) ?_
  refine Unw.seq ?_
  refine Go.seq ?_
  refine Go.seq ?_
  refine Go.dr c248 rfl rfl rfl rfl (mk [(0, .v false [.mp 0 0 0]), (3, iv 0), (13, bv (decide (s_0.at_ < (s_0.code.length : Int))))] [(0, some ⟨0, 0, true, true, false, true, [⟨.imm, 0, 1, .row 1 (List.map (eK .u8) s_0.code)⟩, ⟨.imm, 0, 0, .sc (.int .i64 s_0.at_)⟩, ⟨.imm, 0, 0, .sc (.int .u64 s_0.seed)⟩]⟩)]) (sT rfl (dN z248 rfl (oMv rfl rfl)) <| sT rfl (dN z248 rfl (oNl rfl rfl rfl)) <| sT rfl (dN z248 rfl (oFA (r' := .mp 0 0 1) rfl fF283_1 rfl rfl)) <| sT rfl (dN z248 rfl (oLd (cs := [.im 0 _]) rfl tF3 rfl rfl)) <| sT rfl (dN z248 rfl (oMv rfl rfl)) <| sT rfl (dN z248 rfl (oNl rfl rfl rfl)) <| sT rfl (dN z248 rfl (oFA (r' := .mp 0 0 0) rfl fF283_0 rfl rfl)) <| sT rfl (dN z248 rfl (oLd (cs := [.im 1 _]) rfl tF22 rfl rfl)) <| sT rfl (dN z248 rfl (oLnI rfl rfl uF22 rfl)) <| sT rfl (dN z248 rfl (oBi rfl rfl rfl rfl)) <| sD (by kernel_rfl)) ?_
  refine Unw.seq ?_
  refine Go.join (fun st => ∃ b_3_r4, spec_l00Src_next_k4 s_0 b_3_r4 = some r ∧ st.norm ([0, 3], [0]) = mk [(0, .v false [.mp 0 0 0]), (3, iv b_3_r4)] [(0, some ⟨0, 0, true, true, false, true, [⟨.imm, 0, 1, .row 1 (List.map (eK .u8) s_0.code)⟩, ⟨.imm, 0, 0, .sc (.int .i64 s_0.at_)⟩, ⟨.imm, 0, 0, .sc (.int .u64 s_0.seed)⟩]⟩)]) ?_ ?_
  · rintro st ⟨b_3_r4, h, hst⟩
    unfold spec_l00Src_next_k4 at h
    refine Unw.seq ?_
    refine Go.seq ?_
    refine Go.r1 c248 rfl rfl hst (sq z248 (oMv rfl rfl) <| sq z248 (oNl rfl rfl rfl) <| sq z248 (oFA (r' := .mp 0 0 1) rfl fF283_1 rfl rfl) <| sq z248 (oLd (cs := [.im 0 _]) rfl tF3 rfl rfl) <| sq z248 (oBi rfl rfl rfl rfl) <| sq z248 (oNl rfl rfl rfl) <| sq z248 (oFA (r' := .mp 0 0 1) rfl fF283_1 rfl rfl) <| sq z248 (oSt tF3 rfl rfl rfl (tkI tk0) rfl rfl rfl) <| nl) ?_
    refine Unw.seq ?_
    refine Go.seq ?_
    refine Go.r1 c248 rfl rfl (st1 := mk [(0, .v false [.mp 0 0 0]), (3, iv b_3_r4)] [(0, some ⟨0, 0, true, true, false, true, [⟨.imm, 0, 1, .row 1 (List.map (eK .u8) s_0.code)⟩, ⟨.imm, 0, 0, .sc (.int .i64 (w64 (s_0.at_ + 1)))⟩, ⟨.imm, 0, 0, .sc (.int .u64 s_0.seed)⟩]⟩)]) (by kernel_rfl) (sq z248 (oMv rfl rfl) <| sq z248 (oMv rfl rfl) <| sq z248 (oNl rfl rfl rfl) <| sq z248 (oFA (r' := .mp 0 0 2) rfl fF283_2 rfl rfl) <| sq z248 (oLd (cs := [.im 0 _]) rfl tF281 rfl rfl) <| sq z248 (oBi rfl rfl rfl rfl) <| sq z248 (oMv rfl rfl) <| sq z248 (oCvI rfl uF3 uF281 rfl) <| sq z248 (oBi rfl rfl rfl rfl) <| sq z248 (oBi rfl rfl rfl rfl) <| sq z248 (oNl rfl rfl rfl) <| sq z248 (oFA (r' := .mp 0 0 2) rfl fF283_2 rfl rfl) <| sq z248 (oSt tF281 rfl rfl rfl (tkI tk0) rfl rfl rfl) <| nl) ?_
    refine Unw.seq ?_
    refine Go.seq ?_
    refine Go.seq ?_
    refine Go.dr c248 rfl rfl rfl (st1 := mk [(0, .v false [.mp 0 0 0]), (3, iv b_3_r4)] [(0, some ⟨0, 0, true, true, false, true, [⟨.imm, 0, 1, .row 1 (List.map (eK .u8) s_0.code)⟩, ⟨.imm, 0, 0, .sc (.int .i64 (w64 (s_0.at_ + 1)))⟩, ⟨.imm, 0, 0, .sc (.int .u64 (IntKind.wrap .u64 ((IntKind.wrap .u64 ((IntKind.wrap .u64 (s_0.seed * 6364136223846793005)) + (IntKind.wrap .u64 (b_3_r4)))) + 1442695040888963407)))⟩]⟩)]) (by kernel_rfl) (mk [(0, .v false [.mp 0 0 0]), (3, iv b_3_r4), (53, bv (decide ((w64 (s_0.at_ + 1)) ≤ (s_0.code.length : Int))))] [(0, some ⟨0, 0, true, true, false, true, [⟨.imm, 0, 1, .row 1 (List.map (eK .u8) s_0.code)⟩, ⟨.imm, 0, 0, .sc (.int .i64 (w64 (s_0.at_ + 1)))⟩, ⟨.imm, 0, 0, .sc (.int .u64 (IntKind.wrap .u64 ((IntKind.wrap .u64 ((IntKind.wrap .u64 (s_0.seed * 6364136223846793005)) + (IntKind.wrap .u64 (b_3_r4)))) + 1442695040888963407)))⟩]⟩)]) (sT rfl (dN z248 rfl (oMv rfl rfl)) <| sT rfl (dN z248 rfl (oNl rfl rfl rfl)) <| sT rfl (dN z248 rfl (oFA (r' := .mp 0 0 1) rfl fF283_1 rfl rfl)) <| sT rfl (dN z248 rfl (oLd (cs := [.im 0 _]) rfl tF3 rfl rfl)) <| sT rfl (dN z248 rfl (oMv rfl rfl)) <| sT rfl (dN z248 rfl (oNl rfl rfl rfl)) <| sT rfl (dN z248 rfl (oFA (r' := .mp 0 0 0) rfl fF283_0 rfl rfl)) <| sT rfl (dN z248 rfl (oLd (cs := [.im 1 _]) rfl tF22 rfl rfl)) <| sT rfl (dN z248 rfl (oLnI rfl rfl uF22 rfl)) <| sT rfl (dN z248 rfl (oBi rfl rfl rfl rfl)) <| sD (by kernel_rfl)) ?_
    refine Unw.seq ?_
    by_cases hc2 : (w64 (s_0.at_ + 1)) ≤ (s_0.code.length : Int)
    · rw [if_pos hc2] at h
      refine Go.condT rfl (iDec.2 hc2) ?_
      refine Go.seq ?_
      refine Go.r0 c248 rfl rfl (sq z248 (oMv rfl rfl) <| sq z248 (oAsI rfl rfl) <| nl) ?_
      refine Unw.seq ?_
      refine Go.ret (Unw.ret ?_)
      cases h
      exact Fin_ret (fin_of rfl rF248 rfl (by kernel_rfl))
    · rw [if_neg hc2] at h
      refine Go.condF rfl (byF iDec hc2) ?_
      refine Go.skip ?_
      refine Unw.seq ?_
      refine Go.seq ?_
      obtain ⟨x59, hx59, h⟩ := bs h
      refine Go.r0 c248 rfl rfl (sq z248 (oMv rfl rfl) <| sq z248 (oNl rfl rfl rfl) <| sq z248 (oFA (r' := .mp 0 0 2) rfl fF283_2 rfl rfl) <| sq z248 (oLd (cs := [.im 0 _]) rfl tF281 rfl rfl) <| sq z248 (oShr rfl hx59 rfl rfl) <| sq z248 (oBi rfl rfl rfl rfl) <| sq z248 (oCvI rfl uF281 uF2 rfl) <| sq z248 (oAsI rfl rfl) <| nl) ?_
      refine Unw.seq ?_
      refine Go.ret (Unw.ret ?_)
      cases h
      exact Fin_ret (fin_of rfl rF248 rfl (by kernel_rfl))
  · intro K3
    by_cases hc4 : s_0.at_ < (s_0.code.length : Int)
    · rw [if_pos hc4] at h
      refine Go.condT rfl (iDec.2 hc4) ?_
      obtain ⟨x22, hx22, h⟩ := bs h
      refine Go.dr c248 rfl rfl rfl rfl (mk [(0, .v false [.mp 0 0 0]), (3, iv (w64 (x22)))] [(0, some ⟨0, 0, true, true, false, true, [⟨.imm, 0, 1, .row 1 (List.map (eK .u8) s_0.code)⟩, ⟨.imm, 0, 0, .sc (.int .i64 s_0.at_)⟩, ⟨.imm, 0, 0, .sc (.int .u64 s_0.seed)⟩]⟩)]) (sT rfl (dN z248 rfl (oMv rfl rfl)) <| sT rfl (dN z248 rfl (oNl rfl rfl rfl)) <| sT rfl (dN z248 rfl (oFA (r' := .mp 0 0 0) rfl fF283_0 rfl rfl)) <| sT rfl (dN z248 rfl (oLd (cs := [.im 1 _]) rfl tF22 rfl rfl)) <| sT rfl (dN z248 rfl (oMv rfl rfl)) <| sT rfl (dN z248 rfl (oNl rfl rfl rfl)) <| sT rfl (dN z248 rfl (oFA (r' := .mp 0 0 1) rfl fF283_1 rfl rfl)) <| sT rfl (dN z248 rfl (oLd (cs := [.im 0 _]) rfl tF3 rfl rfl)) <| sT rfl (dN z248 rfl (oIAI rfl hx22 sF22 rfl rfl)) <| sT rfl (dN z248 rfl (oLd (cs := [.im 1 _]) rfl tF5 rfl rfl)) <| sS (dN z248 rfl (oCvI rfl uF5 uF3 rfl)) trivial (sS (dN z248 rfl (oAsI rfl rfl)) trivial (sD (by kernel_rfl)))) ?_
      exact K3 _ ⟨(w64 (x22)), h, (by kernel_rfl)⟩
    · rw [if_neg hc4] at h
      refine Go.condF rfl (byF iDec hc4) ?_
      refine Go.skip ?_
      exact K3 _ ⟨0, h, (by kernel_rfl)⟩
theorem L_spec_l00Src_pick {s_0 : S_l00Src} {n_1 : Int} {r : (Int × S_l00Src)} (h : spec_l00Src_pick s_0 n_1 = some r) : FL Try.prog cfg 184 [.ptr true [(.imm, .row 1 (List.map (eK .u8) s_0.code)), (.imm, .sc (.int .i64 s_0.at_)), (.imm, .sc (.int .u64 s_0.seed))], .im 2 false [.sc (.int .i64 n_1)]] = some ([(false, [.im 0 (.sc (.int .i64 r.1))])], [.ptr true [(.imm, .row 1 (List.map (eK .u8) r.2.code)), (.imm, .sc (.int .i64 r.2.at_)), (.imm, .sc (.int .u64 r.2.seed))]]) := by
  unfold spec_l00Src_pick at h
  refine FL_goS (A := [(0, .v false [.mp 0 0 0]), (1, .v false [.im 2 (.sc (.int .i64 n_1))])]) (B := [(0, some ⟨0, 0, true, true, false, true, [⟨.imm, 0, 1, .row 1 (List.map (eK .u8) s_0.code)⟩, ⟨.imm, 0, 0, .sc (.int .i64 s_0.at_)⟩, ⟨.imm, 0, 0, .sc (.int .u64 s_0.seed)⟩]⟩), (1, none)]) (nt := 20) rfl rfl Try.func184 rfl rfl rfl rfl ?_
  refine Go.seq ?_
  refine Go.r0 c184 rfl rfl (sq z184 (oAsI rfl rfl) <| nl) ?_
  refine Unw.seq ?_
  refine Go.seq ?_
  refine Go.seq ?_
  refine Go.r0 c184 rfl rfl (sq z184 (oMv rfl rfl) <| sq z184 (oBi rfl rfl rfl rfl) <| nl) ?_
  refine Unw.seq ?_
  by_cases hc1 : n_1 ≤ 1
  · rw [if_pos hc1] at h
    refine Go.condT rfl (iDec.2 hc1) ?_
    refine Go.seq ?_
    refine Go.r0 c184 rfl rfl (sq z184 (oAsI rfl rfl) <| nl) ?_
    refine Unw.seq ?_
    refine Go.ret (Unw.ret ?_)
    cases h
    exact Fin_ret (fin_of rfl rF184 rfl (by kernel_rfl))
  · rw [if_neg hc1] at h
    refine Go.condF rfl (byF iDec hc1) ?_
    refine Go.skip ?_
    refine Unw.seq ?_
    refine Go.seq ?_
    obtain ⟨x9, hx9, h⟩ := bs h
    refine Go.r0 c184 rfl rfl (sq z184 (oMv rfl rfl) <| sq z184 (oCa (xs := [.v false [.mp 0 0 0]]) (vs := [(false, [.im 0 _])]) (v := .v false [.im 0 _]) (L_spec_l00Src_next hx9) (.inl rfl) rfl kF248_121 rfl (ppP rfl rfl rfl pp0) rfl rfl (pbP rfl rfl pb0) rfl rfl rfl) <| sq z184 (oAsI rfl rfl) <| nl) ?_
    refine Unw.seq ?_
    refine Go.seq ?_
    refine Go.seq ?_
    refine Go.r1 c184 rfl rfl (st1 := mk [(0, .v false [.mp 0 0 0]), (1, iv n_1), (5, iv x9.1)] [(0, some ⟨0, 0, true, true, false, true, [⟨.imm, 0, 1, .row 1 (List.map (eK .u8) x9.2.code)⟩, ⟨.imm, 0, 0, .sc (.int .i64 x9.2.at_)⟩, ⟨.imm, 0, 0, .sc (.int .u64 x9.2.seed)⟩]⟩)]) (by kernel_rfl) (sq z184 (oMv rfl rfl) <| sq z184 (oBi rfl rfl rfl rfl) <| nl) ?_
    refine Unw.seq ?_
    refine Go.join (fun st => ∃ x_5_r6, ∃ s_o0_0_r6, ∃ s_o0_1_r6, ∃ s_o0_2_r6, spec_l00Src_pick_k6 n_1 x_5_r6 s_o0_0_r6 s_o0_1_r6 s_o0_2_r6 = some r ∧ st.norm ([1, 5], [0]) = mk [(1, iv n_1), (5, iv x_5_r6)] [(0, some ⟨0, 0, true, true, false, true, [⟨.imm, 0, 1, .row 1 (List.map (eK .u8) s_o0_0_r6)⟩, ⟨.imm, 0, 0, .sc (.int .i64 s_o0_1_r6)⟩, ⟨.imm, 0, 0, .sc (.int .u64 s_o0_2_r6)⟩]⟩)]) ?_ ?_
    · rintro st ⟨x_5_r6, s_o0_0_r6, s_o0_1_r6, s_o0_2_r6, h, hst⟩
      unfold spec_l00Src_pick_k6 at h
      refine Unw.seq ?_
      refine Go.seq ?_
      obtain ⟨x19, hx19, h⟩ := bs h
      refine Go.r1 c184 rfl rfl hst (sq z184 (oMv rfl rfl) <| sq z184 (oMv rfl rfl) <| sq z184 (oRem rfl hx19 rfl rfl) <| sq z184 (oAsI rfl rfl) <| nl) ?_
      refine Unw.seq ?_
      refine Go.ret (Unw.ret ?_)
      cases h
      exact Fin_ret (fin_of rfl rF184 rfl (by kernel_rfl))
    · intro K3
      by_cases hc4 : n_1 > 200
      · rw [if_pos hc4] at h
        refine Go.condT rfl (iDec.2 hc4) ?_
        obtain ⟨x15, hx15, h⟩ := bs h
        refine Go.r0 c184 rfl rfl (sq z184 (oMv rfl rfl) <| sq z184 (oBi rfl rfl rfl rfl) <| sq z184 (oMv rfl rfl) <| sq z184 (oCa (xs := [.v false [.mp 0 0 0]]) (vs := [(false, [.im 0 _])]) (v := .v false [.im 0 _]) (L_spec_l00Src_next hx15) (.inl rfl) rfl kF248_121 rfl (ppP rfl rfl rfl pp0) rfl rfl (pbP rfl rfl pb0) rfl rfl rfl) <| sq z184 (oBi rfl rfl rfl rfl) <| sq z184 (oAsI rfl rfl) <| nl) ?_
        exact K3 _ ⟨(w64 ((w64 (x9.1 * 256)) + x15.1)), x15.2.code, x15.2.at_, x15.2.seed, h, (by kernel_rfl)⟩
      · rw [if_neg hc4] at h
        refine Go.condF rfl (byF iDec hc4) ?_
        refine Go.skip ?_
        exact K3 _ ⟨x9.1, x9.2.code, x9.2.at_, x9.2.seed, h, (by kernel_rfl)⟩
theorem L_spec_l00Src_one {s_0 : S_l00Src} {n_1 : Int} {r : (Bool × S_l00Src)} (h : spec_l00Src_one s_0 n_1 = some r) : FL Try.prog cfg 183 [.ptr true [(.imm, .row 1 (List.map (eK .u8) s_0.code)), (.imm, .sc (.int .i64 s_0.at_)), (.imm, .sc (.int .u64 s_0.seed))], .im 2 false [.sc (.int .i64 n_1)]] = some ([(false, [.im 0 (.sc (.bool r.1))])], [.ptr true [(.imm, .row 1 (List.map (eK .u8) r.2.code)), (.imm, .sc (.int .i64 r.2.at_)), (.imm, .sc (.int .u64 r.2.seed))]]) := by
  unfold spec_l00Src_one at h
  refine FL_goS (A := [(0, .v false [.mp 0 0 0]), (1, .v false [.im 2 (.sc (.int .i64 n_1))])]) (B := [(0, some ⟨0, 0, true, true, false, true, [⟨.imm, 0, 1, .row 1 (List.map (eK .u8) s_0.code)⟩, ⟨.imm, 0, 0, .sc (.int .i64 s_0.at_)⟩, ⟨.imm, 0, 0, .sc (.int .u64 s_0.seed)⟩]⟩), (1, none)]) (nt := 9) rfl rfl Try.func183 rfl rfl rfl rfl ?_
  refine Go.seq ?_
  refine Go.r0 c183 rfl rfl (sq z183 (oAsI rfl rfl) <| nl) ?_
  refine Unw.seq ?_
  refine Go.seq ?_
  obtain ⟨x7, hx7, h⟩ := bs h
  refine Go.r0 c183 rfl rfl (sq z183 (oMv rfl rfl) <| sq z183 (oMv rfl rfl) <| sq z183 (oCa (xs := [.v false [.mp 0 0 0], .v false [.im 2 _]]) (vs := [(false, [.im 0 _])]) (v := .v false [.im 0 _]) (L_spec_l00Src_pick hx7) (.inl rfl) rfl kF184_121_2 rfl (ppP rfl rfl rfl (ppC rfl pp0)) rfl rfl (pbP rfl rfl pb0) rfl rfl rfl) <| sq z183 (oBi rfl rfl rfl rfl) <| sq z183 (oAsI rfl rfl) <| nl) ?_
  refine Unw.seq ?_
  refine Go.ret (Unw.ret ?_)
  cases h
  exact Fin_ret (fin_of rfl rF183 rfl (by kernel_rfl))
theorem L_spec_l00Src_among {s_0 : S_l00Src} {list_1 : (List Int)} {r : (Int × S_l00Src)} (h : spec_l00Src_among s_0 list_1 = some r) : FL Try.prog cfg 99 [.ptr true [(.imm, .row 1 (List.map (eK .u8) s_0.code)), (.imm, .sc (.int .i64 s_0.at_)), (.imm, .sc (.int .u64 s_0.seed))], .im 2 false [.row 1 (List.map eI list_1)]] = some ([(false, [.im 0 (.sc (.int .i64 r.1))])], [.ptr true [(.imm, .row 1 (List.map (eK .u8) r.2.code)), (.imm, .sc (.int .i64 r.2.at_)), (.imm, .sc (.int .u64 r.2.seed))]]) := by
  unfold spec_l00Src_among at h
  refine FL_goS (A := [(0, .v false [.mp 0 0 0]), (1, .v false [.im 2 (.row 1 (List.map eI list_1))])]) (B := [(0, some ⟨0, 0, true, true, false, true, [⟨.imm, 0, 1, .row 1 (List.map (eK .u8) s_0.code)⟩, ⟨.imm, 0, 0, .sc (.int .i64 s_0.at_)⟩, ⟨.imm, 0, 0, .sc (.int .u64 s_0.seed)⟩]⟩), (1, none)]) (nt := 12) rfl rfl Try.func99 rfl rfl rfl rfl ?_
  refine Go.seq ?_
  refine Go.r0 c99 rfl rfl (sq z99 (oAsI rfl rfl) <| nl) ?_
  refine Unw.seq ?_
  refine Go.seq ?_
  obtain ⟨x9, hx9, h⟩ := bs h
  obtain ⟨x10, hx10, h⟩ := bs h
  refine Go.r0 c99 rfl rfl (sq z99 (oMv rfl rfl) <| sq z99 (oMv rfl rfl) <| sq z99 (oMv rfl rfl) <| sq z99 (oLnI rfl rfl uF27 rfl) <| sq z99 (oCa (xs := [.v false [.mp 0 0 0], .v false [.im 0 _]]) (vs := [(false, [.im 0 _])]) (v := .v false [.im 0 _]) (L_spec_l00Src_pick hx9) (.inl rfl) rfl kF184_121_2 rfl (ppP rfl rfl rfl (ppC rfl pp0)) rfl rfl (pbP rfl rfl pb0) rfl rfl rfl) <| sq z99 (oIAI rfl hx10 sF27 rfl rfl) <| sq z99 (oLd (cs := [.im 2 _]) rfl tF2 rfl rfl) <| sq z99 (oAsI rfl rfl) <| nl) ?_
  refine Unw.seq ?_
  refine Go.ret (Unw.ret ?_)
  cases h
  exact Fin_ret (fin_of rfl rF99 rfl (by kernel_rfl))
theorem L_spec_l26DrawOk {s_0 : S_l00Src} {id_1 : ByteArray} {r : (S_Feature × S_l00Src)} (h : spec_l26DrawOk s_0 id_1 = some r) : FL Try.prog cfg 226 [.ptr true [(.imm, .row 1 (List.map (eK .u8) s_0.code)), (.imm, .sc (.int .i64 s_0.at_)), (.imm, .sc (.int .u64 s_0.seed))], .im 2 false [.sc (.string id_1)]] = some ([(true, [.im 0 (.sc (.string r.1.Id)), .ow 0 1 (List.map eI r.1.Values)])], [.ptr true [(.imm, .row 1 (List.map (eK .u8) r.2.code)), (.imm, .sc (.int .i64 r.2.at_)), (.imm, .sc (.int .u64 r.2.seed))]]) := by
  unfold spec_l26DrawOk at h
  refine FL_goS (A := [(0, .v false [.mp 0 0 0]), (1, .v false [.im 2 (.sc (.string id_1))])]) (B := [(0, some ⟨0, 0, true, true, false, true, [⟨.imm, 0, 1, .row 1 (List.map (eK .u8) s_0.code)⟩, ⟨.imm, 0, 0, .sc (.int .i64 s_0.at_)⟩, ⟨.imm, 0, 0, .sc (.int .u64 s_0.seed)⟩]⟩), (1, none)]) (nt := 22) rfl rfl Try.func226 rfl rfl rfl rfl ?_
  refine Go.seq ?_
  refine Go.r0 c226 rfl rfl (sq z226 (oAl rfl tF194 (tkI (tkN tk0))) <| nl) ?_
  refine Unw.seq ?_
  refine Go.seq ?_
  refine Go.r0 c226 rfl rfl (sq z226 (oMv rfl rfl) <| sq z226 (oBu (cs := [.im 2 _, .nil]) rfl bF194 rfl) <| sq z226 (oAl rfl tF194 (tkI (tkN tk0))) <| sq z226 (oSt tF194 rfl rfl rfl (tkI (tkN tk0)) rfl rfl rfl) <| nl) ?_
  refine Unw.seq ?_
  refine Go.seq ?_
  refine Go.seq ?_
  refine Go.r1 c226 rfl rfl (st1 := mk [(0, .v false [.mp 0 0 0]), (4, .v false [.mp 4 0 0]), (5, .v false [.mp 5 0 0])] [(0, some ⟨0, 0, true, true, false, true, [⟨.imm, 0, 1, .row 1 (List.map (eK .u8) s_0.code)⟩, ⟨.imm, 0, 0, .sc (.int .i64 s_0.at_)⟩, ⟨.imm, 0, 0, .sc (.int .u64 s_0.seed)⟩]⟩), (4, some ⟨0, 0, false, true, false, true, [⟨.imm, 0, 0, .sc (.string (⟨#[]⟩ : ByteArray))⟩, ⟨.sh, 0, 0, .row 1 (List.map eI ([] : List Int))⟩]⟩), (5, some ⟨0, 0, false, true, false, true, [⟨.imm, 0, 0, .sc (.string id_1)⟩, ⟨.sh, 0, 0, .row 1 (List.map eI ([] : List Int))⟩]⟩)]) (by kernel_rfl) (sq z226 (oAsI rfl rfl) <| nl) ?_
  refine Unw.seq ?_
  refine Go.block ?_
  obtain ⟨o, hl, h⟩ := bs h
  refine Go.lp c226 rfl _ (fun (s : (Int × (List Int) × Int × Int × (List Int))) => match s with | (k_6_l3, s_o0_0_l3, s_o0_1_l3, s_o0_2_l3, f_o5_1_l3) => mk [(0, .v false [.mp 0 0 0]), (4, .v false [.mp 4 0 0]), (5, .v false [.mp 5 0 0]), (6, iv k_6_l3)] [(0, some ⟨0, 0, true, true, false, true, [⟨.imm, 0, 1, .row 1 (List.map (eK .u8) s_o0_0_l3)⟩, ⟨.imm, 0, 0, .sc (.int .i64 s_o0_1_l3)⟩, ⟨.imm, 0, 0, .sc (.int .u64 s_o0_2_l3)⟩]⟩), (4, some ⟨0, 0, false, true, false, true, [⟨.imm, 0, 0, .sc (.string (⟨#[]⟩ : ByteArray))⟩, ⟨.sh, 0, 0, .row 1 (List.map eI ([] : List Int))⟩]⟩), (5, some ⟨0, 0, false, true, false, true, [⟨.imm, 0, 0, .sc (.string id_1)⟩, ⟨.sh, 0, 0, .row 1 (List.map eI f_o5_1_l3)⟩]⟩)]) (fun (o : ((List Int) × Int × Int × (List Int))) (p : Ex × St) => match o with | (s_o0_0_e0_3, s_o0_1_e0_3, s_o0_2_e0_3, f_o5_1_e0_3) => p.1 = .exit 0 ∧ p.2.norm ([4, 5], [0, 4, 5]) = mk [(4, .v false [.mp 4 0 0]), (5, .v false [.mp 5 0 0])] [(0, some ⟨0, 0, true, true, false, true, [⟨.imm, 0, 1, .row 1 (List.map (eK .u8) s_o0_0_e0_3)⟩, ⟨.imm, 0, 0, .sc (.int .i64 s_o0_1_e0_3)⟩, ⟨.imm, 0, 0, .sc (.int .u64 s_o0_2_e0_3)⟩]⟩), (4, some ⟨0, 0, false, true, false, true, [⟨.imm, 0, 0, .sc (.string (⟨#[]⟩ : ByteArray))⟩, ⟨.sh, 0, 0, .row 1 (List.map eI ([] : List Int))⟩]⟩), (5, some ⟨0, 0, false, true, false, true, [⟨.imm, 0, 0, .sc (.string id_1)⟩, ⟨.sh, 0, 0, .row 1 (List.map eI f_o5_1_e0_3)⟩]⟩)]) hl (by kernel_rfl) ?_ ?_ ?_
  · intro o p hp e
    obtain ⟨s_o0_0_e0_3, s_o0_1_e0_3, s_o0_2_e0_3, f_o5_1_e0_3⟩ := o
    exact nomatch (hp.1.symm.trans e)
  · rintro ⟨k_6_l3, s_o0_0_l3, s_o0_1_l3, s_o0_2_l3, f_o5_1_l3⟩ o h
    unfold spec_l26DrawOk_l3 at h
    dsimp only at h
    refine Go.seq ?_
    refine Go.seq ?_
    refine Go.r0 c226 rfl rfl (sq z226 (oMv rfl rfl) <| sq z226 (oBi rfl rfl rfl rfl) <| nl) ?_
    refine Unw.seq ?_
    by_cases hc3 : k_6_l3 < 6
    · rw [if_pos hc3] at h
      refine Go.condT rfl (iDec.2 hc3) ?_
      refine Go.skip ?_
      refine Unw.seq ?_
      refine Go.seq ?_
      refine Go.block ?_
      obtain ⟨x17, hx17, h⟩ := bs h
      obtain ⟨x19, hx19, h⟩ := bs h
      refine Go.dr c226 rfl rfl rfl rfl (mk [(0, .v false [.mp 0 0 0]), (4, .v false [.mp 4 0 0]), (5, .v false [.mp 5 0 0]), (6, iv k_6_l3)] [(0, some ⟨0, 0, true, true, false, true, [⟨.imm, 0, 1, .row 1 (List.map (eK .u8) x17.2.code)⟩, ⟨.imm, 0, 0, .sc (.int .i64 x17.2.at_)⟩, ⟨.imm, 0, 0, .sc (.int .u64 x17.2.seed)⟩]⟩), (4, some ⟨0, 0, false, true, false, true, [⟨.imm, 0, 0, .sc (.string (⟨#[]⟩ : ByteArray))⟩, ⟨.sh, 0, 0, .row 1 (List.map eI ([] : List Int))⟩]⟩), (5, some ⟨0, 0, false, true, false, true, [⟨.imm, 0, 0, .sc (.string id_1)⟩, ⟨.sh, 0, 0, .row 1 (List.map eI x19)⟩]⟩)]) (sT rfl (dN z226 rfl (oMv rfl rfl)) <| sK (O := [5]) rfl rfl rfl (dN z226 rfl (oFA (r' := .mp 5 0 1) rfl fF194_1 rfl rfl)) <| sK (O := [5]) rfl rfl rfl (dN z226 rfl (oLd (cs := [.own 5 0 1]) rfl tF27 rfl rfl)) <| sS (dN z226 rfl (oBS (es := List.map eI ([0, 10, 50, 100, 255, 20, 30, 12] : List Int)) rfl sF27 rfl (ptC rfl (fxI fx0) rfl (ptC rfl (fxI fx0) rfl (ptC rfl (fxI fx0) rfl (ptC rfl (fxI fx0) rfl (ptC rfl (fxI fx0) rfl (ptC rfl (fxI fx0) rfl (ptC rfl (fxI fx0) rfl (ptC rfl (fxI fx0) rfl pt0)))))))) (flat0 rfl fun _ => rfl))) (kY ⟨rfl, trivial⟩ (kY ⟨rfl, trivial⟩ trivial)) (sS (dN z226 rfl (oCa (xs := [.v false [.mp 0 0 0], .v false [.own 16 0 0]]) (vs := [(false, [.im 0 _])]) (v := .v false [.im 0 _]) (L_spec_l00Src_among hx17) (.inl rfl) rfl kF99_121_27 rfl (ppP rfl rfl rfl (ppC rfl pp0)) rfl rfl (pbP rfl rfl pb0) rfl rfl rfl)) (kY ⟨rfl, trivial⟩ (kY ⟨rfl, trivial⟩ trivial)) (sS (dN z226 rfl (oBS (es := List.map eI ([x17.1] : List Int)) rfl sF27 rfl (ptC rfl (fxI fx0) rfl pt0) (flat0 rfl fun _ => rfl))) (kY ⟨rfl, trivial⟩ (kY ⟨rfl, trivial⟩ trivial)) (sS (dN z226 rfl (oApO (en := eI) (M := ([x17.1] : List Int)) rfl hx19 rfl sF27 rfl rfl uF27 (.inl ⟨_, rfl⟩) rfl rfl rfl rfl (el_own rfl rfl) (flat0 rfl fun _ => rfl))) (kN rfl (kN rfl trivial)) (sT rfl (dN z226 rfl (oFA (r' := .mp 5 0 1) rfl fF194_1 rfl rfl)) <| sS (dN z226 rfl (oSt tF27 rfl rfl rfl (tkO rfl rfl tk0) rfl rfl rfl)) (kN rfl (kN rfl trivial)) (sD (by kernel_rfl))))))) ?_
      refine Unw.blk ?_
      refine Unw.seq ?_
      refine Go.r0 c226 rfl rfl (sq z226 (oMv rfl rfl) <| sq z226 (oBi rfl rfl rfl rfl) <| sq z226 (oAsI rfl rfl) <| nl) ?_
      refine Unw.nil ?_
      cases h
      exact ⟨rfl, (by kernel_rfl)⟩
    · rw [if_neg hc3] at h
      refine Go.condF rfl (byF iDec hc3) ?_
      refine Go.exit ?_
      refine Unw.seqx ?_
      refine Unw.nil ?_
      cases h
      exact ⟨rfl, (by kernel_rfl)⟩
  · rintro ⟨e, st⟩ hp
    obtain ⟨s_o0_0_e0_3, s_o0_1_e0_3, s_o0_2_e0_3, f_o5_1_e0_3⟩ := o
    dsimp only at h
    obtain ⟨he, hst⟩ := hp
    obtain rfl : e = .exit 0 := he
    refine Unw.blkx ?_
    refine Unw.seq ?_
    refine Go.seq ?_
    refine Go.r1 c226 rfl rfl hst (sq z226 (oLd (cs := [.im 0 _, .own 5 0 1]) rfl tF194 rfl rfl) <| sq z226 (oSt tF194 rfl rfl rfl (tkI (tkO rfl rfl tk0)) rfl rfl rfl) <| nl) ?_
    refine Unw.seq ?_
    refine Go.ret (Unw.ret ?_)
    cases h
    exact Fin_ret (fin_of rfl rF226 rfl (by kernel_rfl))
theorem L_spec_l00Src_text {s_0 : S_l00Src} {list_1 : (List ByteArray)} {r : (ByteArray × S_l00Src)} (h : spec_l00Src_text s_0 list_1 = some r) : FL Try.prog cfg 239 [.ptr true [(.imm, .row 1 (List.map (eK .u8) s_0.code)), (.imm, .sc (.int .i64 s_0.at_)), (.imm, .sc (.int .u64 s_0.seed))], .im 2 false [.row 1 (List.map eS list_1)]] = some ([(false, [.im 0 (.sc (.string r.1))])], [.ptr true [(.imm, .row 1 (List.map (eK .u8) r.2.code)), (.imm, .sc (.int .i64 r.2.at_)), (.imm, .sc (.int .u64 r.2.seed))]]) := by
  unfold spec_l00Src_text at h
  refine FL_goS (A := [(0, .v false [.mp 0 0 0]), (1, .v false [.im 2 (.row 1 (List.map eS list_1))])]) (B := [(0, some ⟨0, 0, true, true, false, true, [⟨.imm, 0, 1, .row 1 (List.map (eK .u8) s_0.code)⟩, ⟨.imm, 0, 0, .sc (.int .i64 s_0.at_)⟩, ⟨.imm, 0, 0, .sc (.int .u64 s_0.seed)⟩]⟩), (1, none)]) (nt := 12) rfl rfl Try.func239 rfl rfl rfl rfl ?_
  refine Go.seq ?_
  refine Go.r0 c239 rfl rfl (sq z239 (oAsI rfl rfl) <| nl) ?_
  refine Unw.seq ?_
  refine Go.seq ?_
  obtain ⟨x9, hx9, h⟩ := bs h
  obtain ⟨x10, hx10, h⟩ := bs h
  refine Go.r0 c239 rfl rfl (sq z239 (oMv rfl rfl) <| sq z239 (oMv rfl rfl) <| sq z239 (oMv rfl rfl) <| sq z239 (oLnI rfl rfl uF296 rfl) <| sq z239 (oCa (xs := [.v false [.mp 0 0 0], .v false [.im 0 _]]) (vs := [(false, [.im 0 _])]) (v := .v false [.im 0 _]) (L_spec_l00Src_pick hx9) (.inl rfl) rfl kF184_121_2 rfl (ppP rfl rfl rfl (ppC rfl pp0)) rfl rfl (pbP rfl rfl pb0) rfl rfl rfl) <| sq z239 (oIAI rfl hx10 sF296 rfl rfl) <| sq z239 (oLd (cs := [.im 2 _]) rfl tF9 rfl rfl) <| sq z239 (oAsI rfl rfl) <| nl) ?_
  refine Unw.seq ?_
  refine Go.ret (Unw.ret ?_)
  cases h
  exact Fin_ret (fin_of rfl rF239 rfl (by kernel_rfl))
theorem L_spec_l26DrawOne {s_0 : S_l00Src} {r : (S_Feature × S_l00Src)} (h : spec_l26DrawOne s_0 = some r) : FL Try.prog cfg 227 [.ptr true [(.imm, .row 1 (List.map (eK .u8) s_0.code)), (.imm, .sc (.int .i64 s_0.at_)), (.imm, .sc (.int .u64 s_0.seed))]] = some ([(true, [.im 0 (.sc (.string r.1.Id)), .ow 0 1 (List.map eI r.1.Values)])], [.ptr true [(.imm, .row 1 (List.map (eK .u8) r.2.code)), (.imm, .sc (.int .i64 r.2.at_)), (.imm, .sc (.int .u64 r.2.seed))]]) := by
  unfold spec_l26DrawOne at h
  refine FL_goS (A := [(0, .v false [.mp 0 0 0])]) (B := [(0, some ⟨0, 0, true, true, false, true, [⟨.imm, 0, 1, .row 1 (List.map (eK .u8) s_0.code)⟩, ⟨.imm, 0, 0, .sc (.int .i64 s_0.at_)⟩, ⟨.imm, 0, 0, .sc (.int .u64 s_0.seed)⟩]⟩)]) (nt := 32) rfl rfl Try.func227 rfl rfl rfl rfl ?_
  refine Go.seq ?_
  refine Go.r0 c227 rfl rfl (sq z227 (oAl rfl tF194 (tkI (tkN tk0))) <| nl) ?_
  refine Unw.seq ?_
  refine Go.seq ?_
  obtain ⟨x7, hx7, h⟩ := bs h
  obtain ⟨x8, hx8, h⟩ := bs h
  refine Go.r0 c227 rfl rfl (sq z227 (oMv rfl rfl) <| sq z227 (oMv rfl rfl) <| sq z227 (oBS (es := List.map eS ([(⟨#[97]⟩ : ByteArray), (⟨#[98]⟩ : ByteArray), (⟨#[111, 97, 107, 49]⟩ : ByteArray)] : List ByteArray)) rfl sF296 rfl (ptC rfl (fxI fx0) rfl (ptC rfl (fxI fx0) rfl (ptC rfl (fxI fx0) rfl pt0))) (flat0 rfl fun _ => rfl)) <| sq z227 (oCa (xs := [.v false [.mp 0 0 0], .v false [.own 6 0 0]]) (vs := [(false, [.im 0 _])]) (v := .v false [.im 0 _]) (L_spec_l00Src_text hx7) (.inl rfl) rfl kF239_121_296 rfl (ppP rfl rfl rfl (ppC rfl pp0)) rfl rfl (pbP rfl rfl pb0) rfl rfl rfl) <| sq z227 (oCr (xs := [.v false [.mp 0 0 0], .v false [.im 0 _]]) (vs := [(true, [.im 0 _, .own 8 0 0])]) (v := .v true [.im 0 _, .own 8 0 0]) (c := ⟨.sh, 0, _⟩) (cs := []) (L_spec_l26DrawOk hx8) (.inl rfl) rfl kF226_121_9 rfl (ppP rfl rfl rfl (ppC rfl pp0)) rfl rfl (pbP rfl rfl pb0) rfl rfl rfl) <| sq z227 (oAl rfl tF194 (tkI (tkN tk0))) <| sq z227 (oSt tF194 rfl rfl rfl (tkI (tkO rfl rfl tk0)) rfl rfl rfl) <| nl) ?_
  refine Unw.seq ?_
  refine Go.seq ?_
  refine Go.seq ?_
  obtain ⟨x10, hx10, h⟩ := bs h
  refine Go.r1 c227 rfl rfl (st1 := mk [(0, .v false [.mp 0 0 0]), (2, .v false [.mp 2 0 0]), (3, .v false [.mp 3 0 0])] [(0, some ⟨0, 0, true, true, false, true, [⟨.imm, 0, 1, .row 1 (List.map (eK .u8) x8.2.code)⟩, ⟨.imm, 0, 0, .sc (.int .i64 x8.2.at_)⟩, ⟨.imm, 0, 0, .sc (.int .u64 x8.2.seed)⟩]⟩), (2, some ⟨0, 0, false, true, false, true, [⟨.imm, 0, 0, .sc (.string (⟨#[]⟩ : ByteArray))⟩, ⟨.sh, 0, 0, .row 1 (List.map eI ([] : List Int))⟩]⟩), (3, some ⟨0, 0, false, true, false, true, [⟨.imm, 0, 0, .sc (.string x8.1.Id)⟩, ⟨.sh, 0, 0, .row 1 (List.map eI x8.1.Values)⟩]⟩)]) (by kernel_rfl) (sq z227 (oMv rfl rfl) <| sq z227 (oCa (xs := [.v false [.mp 0 0 0], .v false [.im 0 _]]) (vs := [(false, [.im 0 _])]) (v := .v false [.im 0 _]) (L_spec_l00Src_pick hx10) (.inl rfl) rfl kF184_121_2 rfl (ppP rfl rfl rfl (ppC rfl pp0)) rfl rfl (pbP rfl rfl pb0) rfl rfl rfl) <| nl) ?_
  refine Unw.seq ?_
  refine Go.join (fun st => ∃ s_o0_0_r9, ∃ s_o0_1_r9, ∃ s_o0_2_r9, ∃ f_o3_0_r9, ∃ f_o3_1_r9, spec_l26DrawOne_k9 s_o0_0_r9 s_o0_1_r9 s_o0_2_r9 f_o3_0_r9 f_o3_1_r9 = some r ∧ st.norm ([2, 3], [0, 2, 3]) = mk [(2, .v false [.mp 2 0 0]), (3, .v false [.mp 3 0 0])] [(0, some ⟨0, 0, true, true, false, true, [⟨.imm, 0, 1, .row 1 (List.map (eK .u8) s_o0_0_r9)⟩, ⟨.imm, 0, 0, .sc (.int .i64 s_o0_1_r9)⟩, ⟨.imm, 0, 0, .sc (.int .u64 s_o0_2_r9)⟩]⟩), (2, some ⟨0, 0, false, true, false, true, [⟨.imm, 0, 0, .sc (.string (⟨#[]⟩ : ByteArray))⟩, ⟨.sh, 0, 0, .row 1 (List.map eI ([] : List Int))⟩]⟩), (3, some ⟨0, 0, false, true, false, true, [⟨.imm, 0, 0, .sc (.string f_o3_0_r9)⟩, ⟨.sh, 0, 0, .row 1 (List.map eI f_o3_1_r9)⟩]⟩)]) ?_ ?_
  · rintro st ⟨s_o0_0_r9, s_o0_1_r9, s_o0_2_r9, f_o3_0_r9, f_o3_1_r9, h, hst⟩
    unfold spec_l26DrawOne_k9 at h
    refine Unw.seq ?_
    refine Go.seq ?_
    refine Go.r1 c227 rfl rfl hst (sq z227 (oLd (cs := [.im 0 _, .own 3 0 1]) rfl tF194 rfl rfl) <| sq z227 (oSt tF194 rfl rfl rfl (tkI (tkO rfl rfl tk0)) rfl rfl rfl) <| nl) ?_
    refine Unw.seq ?_
    refine Go.ret (Unw.ret ?_)
    cases h
    exact Fin_ret (fin_of rfl rF227 rfl (by kernel_rfl))
  · intro K4
    refine Go.block ?_
    refine Go.seq ?_
    refine Go.r1 c227 rfl rfl (st1 := mk [(0, .v false [.mp 0 0 0]), (2, .v false [.mp 2 0 0]), (3, .v false [.mp 3 0 0]), (10, iv x10.1)] [(0, some ⟨0, 0, true, true, false, true, [⟨.imm, 0, 1, .row 1 (List.map (eK .u8) x10.2.code)⟩, ⟨.imm, 0, 0, .sc (.int .i64 x10.2.at_)⟩, ⟨.imm, 0, 0, .sc (.int .u64 x10.2.seed)⟩]⟩), (2, some ⟨0, 0, false, true, false, true, [⟨.imm, 0, 0, .sc (.string (⟨#[]⟩ : ByteArray))⟩, ⟨.sh, 0, 0, .row 1 (List.map eI ([] : List Int))⟩]⟩), (3, some ⟨0, 0, false, true, false, true, [⟨.imm, 0, 0, .sc (.string x8.1.Id)⟩, ⟨.sh, 0, 0, .row 1 (List.map eI x8.1.Values)⟩]⟩)]) (by kernel_rfl) (sq z227 (oBi rfl rfl rfl rfl) <| sq z227 (oAsI rfl rfl) <| nl) ?_
    refine Unw.seq ?_
    by_cases hc5 : x10.1 = 0
    · rw [if_pos hc5] at h
      refine Go.condT rfl (iEq.2 hc5) ?_
      obtain ⟨x17, hx17, h⟩ := bs h
      obtain ⟨x18, hx18, h⟩ := bs h
      refine Go.dr c227 rfl rfl rfl rfl (mk [(2, .v false [.mp 2 0 0]), (3, .v false [.mp 3 0 0])] [(0, some ⟨0, 0, true, true, false, true, [⟨.imm, 0, 1, .row 1 (List.map (eK .u8) x17.2.code)⟩, ⟨.imm, 0, 0, .sc (.int .i64 x17.2.at_)⟩, ⟨.imm, 0, 0, .sc (.int .u64 x17.2.seed)⟩]⟩), (2, some ⟨0, 0, false, true, false, true, [⟨.imm, 0, 0, .sc (.string (⟨#[]⟩ : ByteArray))⟩, ⟨.sh, 0, 0, .row 1 (List.map eI ([] : List Int))⟩]⟩), (3, some ⟨0, 0, false, true, false, true, [⟨.imm, 0, 0, .sc (.string x8.1.Id)⟩, ⟨.sh, 0, 0, .row 1 (List.map eI (x8.1.Values.set ((3 : Int).toNat) x17.1))⟩]⟩)]) (sT rfl (dN z227 rfl (oMv rfl rfl)) <| sK (O := [3]) rfl rfl rfl (dN z227 rfl (oFA (r' := .mp 3 0 1) rfl fF194_1 rfl rfl)) <| sK (O := [3]) rfl rfl rfl (dN z227 rfl (oLd (cs := [.own 3 0 1]) rfl tF27 rfl rfl)) <| sS (dN z227 rfl (oBS (es := List.map eI ([(-1), 255, 256] : List Int)) rfl sF27 rfl (ptC rfl (fxI fx0) rfl (ptC rfl (fxI fx0) rfl (ptC rfl (fxI fx0) rfl pt0))) (flat0 rfl fun _ => rfl))) (kY ⟨rfl, trivial⟩ (kY ⟨rfl, trivial⟩ trivial)) (sS (dN z227 rfl (oCa (xs := [.v false [.mp 0 0 0], .v false [.own 16 0 0]]) (vs := [(false, [.im 0 _])]) (v := .v false [.im 0 _]) (L_spec_l00Src_among hx17) (.inl rfl) rfl kF99_121_27 rfl (ppP rfl rfl rfl (ppC rfl pp0)) rfl rfl (pbP rfl rfl pb0) rfl rfl rfl)) (kY ⟨rfl, trivial⟩ (kY ⟨rfl, trivial⟩ trivial)) (sT rfl (dN z227 rfl (oIAO rfl hx18 sF27 rfl rfl rfl rfl)) <| sS (dN z227 rfl (oStE (v' := x17.1) tF2 rfl rfl rfl (fxI fx0) rfl rfl (rd_get hx18) rfl)) (kN rfl (kN rfl trivial)) (sD (by kernel_rfl))))) ?_
      refine Unw.blk ?_
      exact K4 _ ⟨x17.2.code, x17.2.at_, x17.2.seed, x8.1.Id, (x8.1.Values.set ((3 : Int).toNat) x17.1), h, (by kernel_rfl)⟩
    · rw [if_neg hc5] at h
      refine Go.condF rfl (byF iEq hc5) ?_
      refine Go.seq ?_
      refine Go.r0 c227 rfl rfl (sq z227 (oBi rfl rfl rfl rfl) <| sq z227 (oAsI rfl rfl) <| nl) ?_
      refine Unw.seq ?_
      by_cases hc6 : x10.1 = 1
      · rw [if_pos hc6] at h
        refine Go.condT rfl (iEq.2 hc6) ?_
        obtain ⟨x23, hx23, h⟩ := bs h
        refine Go.r0 c227 rfl rfl (sq z227 (oFA (r' := .mp 3 0 1) rfl fF194_1 rfl rfl) <| sq z227 (oLd (cs := [.own 3 0 1]) rfl tF27 rfl rfl) <| sq z227 (oSlO rfl hx23 sF27 rfl rfl rfl (bn1 rfl) bn0 rfl rfl rfl) <| sq z227 (oFA (r' := .mp 3 0 1) rfl fF194_1 rfl rfl) <| sq z227 (oSt tF27 rfl rfl rfl (tkSM rfl rfl tk0) rfl rfl rfl) <| nl) ?_
        refine Unw.blk ?_
        exact K4 _ ⟨x10.2.code, x10.2.at_, x10.2.seed, x8.1.Id, ((x8.1.Values.take ((x8.1.Values.length : Int).toNat)).drop ((1 : Int).toNat)), h, (by kernel_rfl)⟩
      · rw [if_neg hc6] at h
        refine Go.condF rfl (byF iEq hc6) ?_
        refine Go.seq ?_
        refine Go.r0 c227 rfl rfl (sq z227 (oBi rfl rfl rfl rfl) <| sq z227 (oAsI rfl rfl) <| nl) ?_
        refine Unw.seq ?_
        by_cases hc7 : x10.1 = 2
        · rw [if_pos hc7] at h
          refine Go.condT rfl (iEq.2 hc7) ?_
          obtain ⟨x29, hx29, h⟩ := bs h
          refine Go.r0 c227 rfl rfl (sq z227 (oMv rfl rfl) <| sq z227 (oBS (es := List.map eS ([(⟨#[]⟩ : ByteArray), (⟨#[65]⟩ : ByteArray)] : List ByteArray)) rfl sF296 rfl (ptC rfl (fxI fx0) rfl (ptC rfl (fxI fx0) rfl pt0)) (flat0 rfl fun _ => rfl)) <| sq z227 (oCa (xs := [.v false [.mp 0 0 0], .v false [.own 28 0 0]]) (vs := [(false, [.im 0 _])]) (v := .v false [.im 0 _]) (L_spec_l00Src_text hx29) (.inl rfl) rfl kF239_121_296 rfl (ppP rfl rfl rfl (ppC rfl pp0)) rfl rfl (pbP rfl rfl pb0) rfl rfl rfl) <| sq z227 (oFA (r' := .mp 3 0 0) rfl fF194_0 rfl rfl) <| sq z227 (oSt tF9 rfl rfl rfl (tkI tk0) rfl rfl rfl) <| nl) ?_
          refine Unw.blk ?_
          exact K4 _ ⟨x29.2.code, x29.2.at_, x29.2.seed, x29.1, x8.1.Values, h, (by kernel_rfl)⟩
        · rw [if_neg hc7] at h
          refine Go.condF rfl (byF iEq hc7) ?_
          refine Go.skip ?_
          refine Unw.blk ?_
          exact K4 _ ⟨x10.2.code, x10.2.at_, x10.2.seed, x8.1.Id, x8.1.Values, h, (by kernel_rfl)⟩
theorem L_spec_l26DrawList {s_0 : S_l00Src} {r : ((List S_Feature) × S_l00Src)} (h : spec_l26DrawList s_0 = some r) : FL Try.prog cfg 148 [.ptr true [(.imm, .row 1 (List.map (eK .u8) s_0.code)), (.imm, .sc (.int .i64 s_0.at_)), (.imm, .sc (.int .u64 s_0.seed))]] = some ([(false, [.ow 0 2 (List.map e_S_Feature r.1)])], [.ptr true [(.imm, .row 1 (List.map (eK .u8) r.2.code)), (.imm, .sc (.int .i64 r.2.at_)), (.imm, .sc (.int .u64 r.2.seed))]]) := by
  unfold spec_l26DrawList at h
  refine FL_goS (A := [(0, .v false [.mp 0 0 0])]) (B := [(0, some ⟨0, 0, true, true, false, true, [⟨.imm, 0, 1, .row 1 (List.map (eK .u8) s_0.code)⟩, ⟨.imm, 0, 0, .sc (.int .i64 s_0.at_)⟩, ⟨.imm, 0, 0, .sc (.int .u64 s_0.seed)⟩]⟩)]) (nt := 62) rfl rfl Try.func148 rfl rfl rfl rfl ?_
  refine Go.seq ?_
  refine Go.r0 c148 rfl rfl (sq z148 (oAsN rfl rfl eF73) <| nl) ?_
  refine Unw.seq ?_
  refine Go.seq ?_
  refine Go.r0 c148 rfl rfl (sq z148 (oBS (es := List.map eS ([(⟨#[97]⟩ : ByteArray), (⟨#[98]⟩ : ByteArray), (⟨#[99]⟩ : ByteArray), (⟨#[100]⟩ : ByteArray), (⟨#[101]⟩ : ByteArray), (⟨#[102]⟩ : ByteArray), (⟨#[103]⟩ : ByteArray)] : List ByteArray)) rfl sF296 rfl (ptC rfl (fxI fx0) rfl (ptC rfl (fxI fx0) rfl (ptC rfl (fxI fx0) rfl (ptC rfl (fxI fx0) rfl (ptC rfl (fxI fx0) rfl (ptC rfl (fxI fx0) rfl (ptC rfl (fxI fx0) rfl pt0))))))) (flat0 rfl fun _ => rfl)) <| sq z148 (oAsO rfl rfl rfl rfl rfl) <| nl) ?_
  refine Unw.seq ?_
  refine Go.seq ?_
  refine Go.r0 c148 rfl rfl (sq z148 (oBS (es := List.map e_S_Feature ([] : List S_Feature)) rfl sF73 rfl pt0 (flat1 rfl)) <| sq z148 (oAsO rfl rfl rfl rfl rfl) <| nl) ?_
  refine Unw.seq ?_
  refine Go.seq ?_
  refine Go.seq ?_
  refine Go.r0 c148 rfl rfl (sq z148 (oAsI rfl rfl) <| nl) ?_
  refine Unw.seq ?_
  refine Go.block ?_
  obtain ⟨o, hl, h⟩ := bs h
  refine Go.lp c148 rfl _ (fun (s : (Int × (List Int) × Int × Int × (List S_Feature))) => match s with | (k_5_l4, s_o0_0_l4, s_o0_1_l4, s_o0_2_l4, out_o4_l4) => mk [(0, .v false [.mp 0 0 0]), (3, .v false [.own 3 0 0]), (4, .v false [.own 4 0 0]), (5, iv k_5_l4)] [(0, some ⟨0, 0, true, true, false, true, [⟨.imm, 0, 1, .row 1 (List.map (eK .u8) s_o0_0_l4)⟩, ⟨.imm, 0, 0, .sc (.int .i64 s_o0_1_l4)⟩, ⟨.imm, 0, 0, .sc (.int .u64 s_o0_2_l4)⟩]⟩), (3, some ⟨0, 0, false, false, false, false, [⟨.sh, 0, 0, .row 1 (List.map eS ([(⟨#[97]⟩ : ByteArray), (⟨#[98]⟩ : ByteArray), (⟨#[99]⟩ : ByteArray), (⟨#[100]⟩ : ByteArray), (⟨#[101]⟩ : ByteArray), (⟨#[102]⟩ : ByteArray), (⟨#[103]⟩ : ByteArray)] : List ByteArray))⟩]⟩), (4, some ⟨0, 0, false, false, false, false, [⟨.sh, 0, 0, .row 2 (List.map e_S_Feature out_o4_l4)⟩]⟩)]) (fun (o : ((List Int) × Int × Int × (List S_Feature))) (p : Ex × St) => match o with | (s_o0_0_e0_4, s_o0_1_e0_4, s_o0_2_e0_4, out_o4_e0_4) => p.1 = .exit 0 ∧ p.2.norm ([0, 4], [0, 4]) = mk [(0, .v false [.mp 0 0 0]), (4, .v false [.own 4 0 0])] [(0, some ⟨0, 0, true, true, false, true, [⟨.imm, 0, 1, .row 1 (List.map (eK .u8) s_o0_0_e0_4)⟩, ⟨.imm, 0, 0, .sc (.int .i64 s_o0_1_e0_4)⟩, ⟨.imm, 0, 0, .sc (.int .u64 s_o0_2_e0_4)⟩]⟩), (4, some ⟨0, 0, false, false, false, false, [⟨.sh, 0, 0, .row 2 (List.map e_S_Feature out_o4_e0_4)⟩]⟩)]) hl (by kernel_rfl) ?_ ?_ ?_
  · intro o p hp e
    obtain ⟨s_o0_0_e0_4, s_o0_1_e0_4, s_o0_2_e0_4, out_o4_e0_4⟩ := o
    exact nomatch (hp.1.symm.trans e)
  · rintro ⟨k_5_l4, s_o0_0_l4, s_o0_1_l4, s_o0_2_l4, out_o4_l4⟩ o h
    unfold spec_l26DrawList_l4 at h
    dsimp only at h
    refine Go.seq ?_
    refine Go.seq ?_
    refine Go.r0 c148 rfl rfl (sq z148 (oMv rfl rfl) <| sq z148 (oMv rfl rfl) <| sq z148 (oLnO rfl rfl uF296 rfl rfl rfl (fun e => nomatch e)) <| sq z148 (oBi rfl rfl rfl rfl) <| nl) ?_
    refine Unw.seq ?_
    by_cases hc15 : k_5_l4 < (([(⟨#[97]⟩ : ByteArray), (⟨#[98]⟩ : ByteArray), (⟨#[99]⟩ : ByteArray), (⟨#[100]⟩ : ByteArray), (⟨#[101]⟩ : ByteArray), (⟨#[102]⟩ : ByteArray), (⟨#[103]⟩ : ByteArray)] : List ByteArray).length : Int)
    · rw [if_pos hc15] at h
      refine Go.condT rfl (iDec.2 hc15) ?_
      refine Go.skip ?_
      refine Unw.seq ?_
      refine Go.seq ?_
      refine Go.join (fun st => ∃ s_o0_0_r5, ∃ s_o0_1_r5, ∃ s_o0_2_r5, ∃ out_o4_r5, spec_l26DrawList_k5 k_5_l4 s_o0_0_r5 s_o0_1_r5 s_o0_2_r5 out_o4_r5 = some o ∧ st.norm ([0, 3, 4, 5], [0, 3, 4]) = mk [(0, .v false [.mp 0 0 0]), (3, .v false [.own 3 0 0]), (4, .v false [.own 4 0 0]), (5, iv k_5_l4)] [(0, some ⟨0, 0, true, true, false, true, [⟨.imm, 0, 1, .row 1 (List.map (eK .u8) s_o0_0_r5)⟩, ⟨.imm, 0, 0, .sc (.int .i64 s_o0_1_r5)⟩, ⟨.imm, 0, 0, .sc (.int .u64 s_o0_2_r5)⟩]⟩), (3, some ⟨0, 0, false, false, false, false, [⟨.sh, 0, 0, .row 1 (List.map eS ([(⟨#[97]⟩ : ByteArray), (⟨#[98]⟩ : ByteArray), (⟨#[99]⟩ : ByteArray), (⟨#[100]⟩ : ByteArray), (⟨#[101]⟩ : ByteArray), (⟨#[102]⟩ : ByteArray), (⟨#[103]⟩ : ByteArray)] : List ByteArray))⟩]⟩), (4, some ⟨0, 0, false, false, false, false, [⟨.sh, 0, 0, .row 2 (List.map e_S_Feature out_o4_r5)⟩]⟩)]) ?_ ?_
      · rintro st ⟨s_o0_0_r5, s_o0_1_r5, s_o0_2_r5, out_o4_r5, h, hst⟩
        unfold spec_l26DrawList_k5 at h
        refine Unw.seq ?_
        refine Go.r1 c148 rfl rfl hst (sq z148 (oMv rfl rfl) <| sq z148 (oBi rfl rfl rfl rfl) <| sq z148 (oAsI rfl rfl) <| nl) ?_
        refine Unw.nil ?_
        cases h
        exact ⟨rfl, (by kernel_rfl)⟩
      · intro K17
        refine Go.block ?_
        refine Go.seq ?_
        obtain ⟨x17, hx17, h⟩ := bs h
        refine Go.r0 c148 rfl rfl (sq z148 (oMv rfl rfl) <| sq z148 (oCa (xs := [.v false [.mp 0 0 0], .v false [.im 0 _]]) (vs := [(false, [.im 0 _])]) (v := .v false [.im 0 _]) (L_spec_l00Src_one hx17) (.inl rfl) rfl kF183_121_2 rfl (ppP rfl rfl rfl (ppC rfl pp0)) rfl rfl (pbP rfl rfl pb0) rfl rfl rfl) <| nl) ?_
        refine Unw.seq ?_
        by_cases hc18 : x17.1 = true
        · rw [if_pos hc18] at h
          refine Go.condT rfl (Iff.rfl.2 hc18) ?_
          obtain ⟨x22, hx22, h⟩ := bs h
          obtain ⟨x24, hx24, h⟩ := bs h
          obtain ⟨x26, hx26, h⟩ := bs h
          refine Go.r1 c148 rfl rfl (st1 := mk [(0, .v false [.mp 0 0 0]), (3, .v false [.own 3 0 0]), (4, .v false [.own 4 0 0]), (5, iv k_5_l4)] [(0, some ⟨0, 0, true, true, false, true, [⟨.imm, 0, 1, .row 1 (List.map (eK .u8) x17.2.code)⟩, ⟨.imm, 0, 0, .sc (.int .i64 x17.2.at_)⟩, ⟨.imm, 0, 0, .sc (.int .u64 x17.2.seed)⟩]⟩), (3, some ⟨0, 0, false, false, false, false, [⟨.sh, 0, 0, .row 1 (List.map eS ([(⟨#[97]⟩ : ByteArray), (⟨#[98]⟩ : ByteArray), (⟨#[99]⟩ : ByteArray), (⟨#[100]⟩ : ByteArray), (⟨#[101]⟩ : ByteArray), (⟨#[102]⟩ : ByteArray), (⟨#[103]⟩ : ByteArray)] : List ByteArray))⟩]⟩), (4, some ⟨0, 0, false, false, false, false, [⟨.sh, 0, 0, .row 2 (List.map e_S_Feature out_o4_l4)⟩]⟩)]) (by kernel_rfl) (sq z148 (oMv rfl rfl) <| sq z148 (oMv rfl rfl) <| sq z148 (oMv rfl rfl) <| sq z148 (oMv rfl rfl) <| sq z148 (oIAO rfl hx22 sF296 rfl rfl rfl rfl) <| sq z148 (oLdE (cs := [.im 0 _]) rfl tF9 rfl rfl rfl (fun e => nomatch e) (rd_get hx22) rfl rfl) <| sq z148 (oCr (xs := [.v false [.mp 0 0 0], .v false [.im 0 _]]) (vs := [(true, [.im 0 _, .own 24 0 0])]) (v := .v true [.im 0 _, .own 24 0 0]) (c := ⟨.sh, 0, _⟩) (cs := []) (L_spec_l26DrawOk hx24) (.inl rfl) rfl kF226_121_9 rfl (ppP rfl rfl rfl (ppC rfl pp0)) rfl rfl (pbP rfl rfl pb0) rfl rfl rfl) <| sq z148 (oBS (es := List.map e_S_Feature ([x24.1] : List S_Feature)) rfl sF73 rfl (ptC rfl (fxI (fxO rfl rfl fx0)) rfl pt0) (flat1 rfl)) <| sq z148 (oApO (en := e_S_Feature) (M := ([x24.1] : List S_Feature)) rfl hx26 rfl sF73 rfl rfl uF73 (.inl ⟨_, rfl⟩) rfl rfl rfl rfl (el_own rfl rfl) (flat1 rfl)) <| sq z148 (oAsO rfl rfl rfl rfl rfl) <| nl) ?_
          refine Unw.blk ?_
          exact K17 _ ⟨x24.2.code, x24.2.at_, x24.2.seed, x26, h, (by kernel_rfl)⟩
        · rw [if_neg hc18] at h
          refine Go.condF rfl (byF Iff.rfl hc18) ?_
          refine Go.skip ?_
          refine Unw.blk ?_
          exact K17 _ ⟨x17.2.code, x17.2.at_, x17.2.seed, out_o4_l4, h, (by kernel_rfl)⟩
    · rw [if_neg hc15] at h
      refine Go.condF rfl (byF iDec hc15) ?_
      refine Go.exit ?_
      refine Unw.seqx ?_
      refine Unw.nil ?_
      cases h
      exact ⟨rfl, (by kernel_rfl)⟩
  · rintro ⟨e, st⟩ hp
    obtain ⟨s_o0_0_e0_4, s_o0_1_e0_4, s_o0_2_e0_4, out_o4_e0_4⟩ := o
    dsimp only at h
    obtain ⟨he, hst⟩ := hp
    obtain rfl : e = .exit 0 := he
    refine Unw.blkx ?_
    refine Unw.seq ?_
    refine Go.seq ?_
    refine Go.seq ?_
    obtain ⟨x28, hx28, h⟩ := bs h
    refine Go.r1 c148 rfl rfl hst (sq z148 (oMv rfl rfl) <| sq z148 (oCa (xs := [.v false [.mp 0 0 0], .v false [.im 0 _]]) (vs := [(false, [.im 0 _])]) (v := .v false [.im 0 _]) (L_spec_l00Src_pick hx28) (.inl rfl) rfl kF184_121_2 rfl (ppP rfl rfl rfl (ppC rfl pp0)) rfl rfl (pbP rfl rfl pb0) rfl rfl rfl) <| nl) ?_
    refine Unw.seq ?_
    refine Go.join (fun st => ∃ s_o0_0_r18, ∃ s_o0_1_r18, ∃ s_o0_2_r18, ∃ out_o4_r18, spec_l26DrawList_k18 s_o0_0_r18 s_o0_1_r18 s_o0_2_r18 out_o4_r18 = some r ∧ st.norm ([4], [0, 4]) = mk [(4, .v false [.own 4 0 0])] [(0, some ⟨0, 0, true, true, false, true, [⟨.imm, 0, 1, .row 1 (List.map (eK .u8) s_o0_0_r18)⟩, ⟨.imm, 0, 0, .sc (.int .i64 s_o0_1_r18)⟩, ⟨.imm, 0, 0, .sc (.int .u64 s_o0_2_r18)⟩]⟩), (4, some ⟨0, 0, false, false, false, false, [⟨.sh, 0, 0, .row 2 (List.map e_S_Feature out_o4_r18)⟩]⟩)]) ?_ ?_
    · rintro st ⟨s_o0_0_r18, s_o0_1_r18, s_o0_2_r18, out_o4_r18, h, hst⟩
      unfold spec_l26DrawList_k18 at h
      refine Unw.seq ?_
      refine Go.seq ?_
      refine Go.r1 c148 rfl rfl hst (sq z148 (oMv rfl rfl) <| sq z148 (oAsO rfl rfl rfl rfl rfl) <| nl) ?_
      refine Unw.seq ?_
      refine Go.ret (Unw.ret ?_)
      cases h
      exact Fin_ret (fin_of rfl rF148 rfl (by kernel_rfl))
    · intro K9
      refine Go.block ?_
      refine Go.seq ?_
      refine Go.r1 c148 rfl rfl (st1 := mk [(0, .v false [.mp 0 0 0]), (4, .v false [.own 4 0 0]), (28, iv x28.1)] [(0, some ⟨0, 0, true, true, false, true, [⟨.imm, 0, 1, .row 1 (List.map (eK .u8) x28.2.code)⟩, ⟨.imm, 0, 0, .sc (.int .i64 x28.2.at_)⟩, ⟨.imm, 0, 0, .sc (.int .u64 x28.2.seed)⟩]⟩), (4, some ⟨0, 0, false, false, false, false, [⟨.sh, 0, 0, .row 2 (List.map e_S_Feature out_o4_e0_4)⟩]⟩)]) (by kernel_rfl) (sq z148 (oBi rfl rfl rfl rfl) <| sq z148 (oAsI rfl rfl) <| nl) ?_
      refine Unw.seq ?_
      by_cases hc10 : x28.1 = 0
      · rw [if_pos hc10] at h
        refine Go.condT rfl (iEq.2 hc10) ?_
        obtain ⟨x33, hx33, h⟩ := bs h
        obtain ⟨x35, hx35, h⟩ := bs h
        refine Go.r0 c148 rfl rfl (sq z148 (oMv rfl rfl) <| sq z148 (oMv rfl rfl) <| sq z148 (oCr (xs := [.v false [.mp 0 0 0]]) (vs := [(true, [.im 0 _, .own 33 0 0])]) (v := .v true [.im 0 _, .own 33 0 0]) (c := ⟨.sh, 0, _⟩) (cs := []) (L_spec_l26DrawOne hx33) (.inl rfl) rfl kF227_121 rfl (ppP rfl rfl rfl pp0) rfl rfl (pbP rfl rfl pb0) rfl rfl rfl) <| sq z148 (oBS (es := List.map e_S_Feature ([x33.1] : List S_Feature)) rfl sF73 rfl (ptC rfl (fxI (fxO rfl rfl fx0)) rfl pt0) (flat1 rfl)) <| sq z148 (oApO (en := e_S_Feature) (M := ([x33.1] : List S_Feature)) rfl hx35 rfl sF73 rfl rfl uF73 (.inl ⟨_, rfl⟩) rfl rfl rfl rfl (el_own rfl rfl) (flat1 rfl)) <| sq z148 (oAsO rfl rfl rfl rfl rfl) <| nl) ?_
        refine Unw.blk ?_
        exact K9 _ ⟨x33.2.code, x33.2.at_, x33.2.seed, x35, h, (by kernel_rfl)⟩
      · rw [if_neg hc10] at h
        refine Go.condF rfl (byF iEq hc10) ?_
        refine Go.seq ?_
        refine Go.r0 c148 rfl rfl (sq z148 (oBi rfl rfl rfl rfl) <| sq z148 (oAsI rfl rfl) <| nl) ?_
        refine Unw.seq ?_
        by_cases hc11 : x28.1 = 1
        · rw [if_pos hc11] at h
          refine Go.condT rfl (iEq.2 hc11) ?_
          refine Go.seq ?_
          obtain ⟨x40, hx40, h⟩ := bs h
          refine Go.r0 c148 rfl rfl (sq z148 (oMv rfl rfl) <| sq z148 (oBS (es := List.map eI ([16, 17] : List Int)) rfl sF27 rfl (ptC rfl (fxI fx0) rfl (ptC rfl (fxI fx0) rfl pt0)) (flat0 rfl fun _ => rfl)) <| sq z148 (oCa (xs := [.v false [.mp 0 0 0], .v false [.own 39 0 0]]) (vs := [(false, [.im 0 _])]) (v := .v false [.im 0 _]) (L_spec_l00Src_among hx40) (.inl rfl) rfl kF99_121_27 rfl (ppP rfl rfl rfl (ppC rfl pp0)) rfl rfl (pbP rfl rfl pb0) rfl rfl rfl) <| sq z148 (oAsI rfl rfl) <| nl) ?_
          refine Unw.seq ?_
          refine Go.seq ?_
          refine Go.r1 c148 rfl rfl (st1 := mk [(6, iv x40.1)] [(0, some ⟨0, 0, true, true, false, true, [⟨.imm, 0, 1, .row 1 (List.map (eK .u8) x40.2.code)⟩, ⟨.imm, 0, 0, .sc (.int .i64 x40.2.at_)⟩, ⟨.imm, 0, 0, .sc (.int .u64 x40.2.seed)⟩]⟩)]) (by kernel_rfl) (sq z148 (oBS (es := List.map e_S_Feature ([] : List S_Feature)) rfl sF73 rfl pt0 (flat1 rfl)) <| sq z148 (oAsO rfl rfl rfl rfl rfl) <| nl) ?_
          refine Unw.seq ?_
          refine Go.seq ?_
          refine Go.r0 c148 rfl rfl (sq z148 (oAsI rfl rfl) <| nl) ?_
          refine Unw.seq ?_
          refine Go.block ?_
          obtain ⟨o, hl, h⟩ := bs h
          refine Go.lp c148 rfl _ (fun (s : (Int × (List S_Feature))) => match s with | (k_7_l15, out_o4_l15) => mk [(4, .v false [.own 4 0 0]), (6, iv x40.1), (7, iv k_7_l15)] [(0, some ⟨0, 0, true, true, false, true, [⟨.imm, 0, 1, .row 1 (List.map (eK .u8) x40.2.code)⟩, ⟨.imm, 0, 0, .sc (.int .i64 x40.2.at_)⟩, ⟨.imm, 0, 0, .sc (.int .u64 x40.2.seed)⟩]⟩), (4, some ⟨0, 0, false, false, false, false, [⟨.sh, 0, 0, .row 2 (List.map e_S_Feature out_o4_l15)⟩]⟩)]) (fun (out_o4_e3_15 : (List S_Feature)) (p : Ex × St) => p.1 = .exit 3 ∧ p.2.norm ([4], [0, 4]) = mk [(4, .v false [.own 4 0 0])] [(0, some ⟨0, 0, true, true, false, true, [⟨.imm, 0, 1, .row 1 (List.map (eK .u8) x40.2.code)⟩, ⟨.imm, 0, 0, .sc (.int .i64 x40.2.at_)⟩, ⟨.imm, 0, 0, .sc (.int .u64 x40.2.seed)⟩]⟩), (4, some ⟨0, 0, false, false, false, false, [⟨.sh, 0, 0, .row 2 (List.map e_S_Feature out_o4_e3_15)⟩]⟩)]) hl (by kernel_rfl) ?_ ?_ ?_
          · intro o p hp e
            exact nomatch (hp.1.symm.trans e)
          · rintro ⟨k_7_l15, out_o4_l15⟩ o h
            unfold spec_l26DrawList_l15 at h
            dsimp only at h
            refine Go.seq ?_
            refine Go.seq ?_
            refine Go.r0 c148 rfl rfl (sq z148 (oMv rfl rfl) <| sq z148 (oMv rfl rfl) <| sq z148 (oBi rfl rfl rfl rfl) <| nl) ?_
            refine Unw.seq ?_
            by_cases hc14 : k_7_l15 < x40.1
            · rw [if_pos hc14] at h
              refine Go.condT rfl (iDec.2 hc14) ?_
              refine Go.skip ?_
              refine Unw.seq ?_
              refine Go.seq ?_
              refine Go.block ?_
              obtain ⟨x53, hx53, h⟩ := bs h
              obtain ⟨x60, hx60, h⟩ := bs h
              refine Go.r0 c148 rfl rfl (sq z148 (oMv rfl rfl) <| sq z148 (oMv rfl rfl) <| sq z148 (oBi rfl rfl rfl rfl) <| sq z148 (oCvI rfl uF2 uF5 rfl) <| sq z148 (oBS (es := List.map (eK .u8) ([(IntKind.wrap .u8 ((w64 (97 + k_7_l15))))] : List Int)) rfl sF22 rfl (ptC rfl (fxI fx0) rfl pt0) (flat0 rfl fun _ => rfl)) <| sq z148 (oCvB (l := ([(IntKind.wrap .u8 ((w64 (97 + k_7_l15))))] : List Int)) rfl uF22 uF5 uF9 rfl (el_own rfl rfl)) <| sq z148 (oCat rfl hx53 rfl rfl) <| sq z148 (oMv rfl rfl) <| sq z148 (oMv rfl rfl) <| sq z148 (oBi rfl rfl rfl rfl) <| sq z148 (oBS (es := List.map eI ([k_7_l15, (w64 (2 * k_7_l15)), 0, 0, 0, 0] : List Int)) rfl sF27 rfl (ptC rfl (fxI fx0) rfl (ptC rfl (fxI fx0) rfl (ptC rfl (fxI fx0) rfl (ptC rfl (fxI fx0) rfl (ptC rfl (fxI fx0) rfl (ptC rfl (fxI fx0) rfl pt0)))))) (flat0 rfl fun _ => rfl)) <| sq z148 (oBu (cs := [.im 0 _, .own 57 0 0]) rfl bF194 rfl) <| sq z148 (oBS (es := List.map e_S_Feature ([(⟨x53, ([k_7_l15, (w64 (2 * k_7_l15)), 0, 0, 0, 0] : List Int)⟩ : S_Feature)] : List S_Feature)) rfl sF73 rfl (ptC rfl (fxI (fxO rfl rfl fx0)) rfl pt0) (flat1 rfl)) <| sq z148 (oApO (en := e_S_Feature) (M := ([(⟨x53, ([k_7_l15, (w64 (2 * k_7_l15)), 0, 0, 0, 0] : List Int)⟩ : S_Feature)] : List S_Feature)) rfl hx60 rfl sF73 rfl rfl uF73 (.inl ⟨_, rfl⟩) rfl rfl rfl rfl (el_own rfl rfl) (flat1 rfl)) <| sq z148 (oAsO rfl rfl rfl rfl rfl) <| nl) ?_
              refine Unw.blk ?_
              refine Unw.seq ?_
              refine Go.r0 c148 rfl rfl (sq z148 (oMv rfl rfl) <| sq z148 (oBi rfl rfl rfl rfl) <| sq z148 (oAsI rfl rfl) <| nl) ?_
              refine Unw.nil ?_
              cases h
              exact ⟨rfl, (by kernel_rfl)⟩
            · rw [if_neg hc14] at h
              refine Go.condF rfl (byF iDec hc14) ?_
              refine Go.exit ?_
              refine Unw.seqx ?_
              refine Unw.nil ?_
              cases h
              exact ⟨rfl, (by kernel_rfl)⟩
          · rintro ⟨e, st⟩ hp
            obtain ⟨out_o4_e3_15, rfl⟩ : ∃ y, y = o := ⟨o, rfl⟩
            obtain ⟨he, hst⟩ := hp
            obtain rfl : e = .exit 3 := he
            refine Unw.blkx ?_
            refine Unw.blk ?_
            exact K9 _ ⟨x40.2.code, x40.2.at_, x40.2.seed, out_o4_e3_15, h, hst⟩
        · rw [if_neg hc11] at h
          refine Go.condF rfl (byF iEq hc11) ?_
          refine Go.skip ?_
          refine Unw.blk ?_
          exact K9 _ ⟨x28.2.code, x28.2.at_, x28.2.seed, out_o4_e0_4, h, (by kernel_rfl)⟩
theorem L_spec_l08DrawBudget {s_0 : S_l00Src} {r : (Int × S_l00Src)} (h : spec_l08DrawBudget s_0 = some r) : FL Try.prog cfg 87 [.ptr true [(.imm, .row 1 (List.map (eK .u8) s_0.code)), (.imm, .sc (.int .i64 s_0.at_)), (.imm, .sc (.int .u64 s_0.seed))]] = some ([(false, [.im 0 (.sc (.int .i64 r.1))])], [.ptr true [(.imm, .row 1 (List.map (eK .u8) r.2.code)), (.imm, .sc (.int .i64 r.2.at_)), (.imm, .sc (.int .u64 r.2.seed))]]) := by
  unfold spec_l08DrawBudget at h
  refine FL_goS (A := [(0, .v false [.mp 0 0 0])]) (B := [(0, some ⟨0, 0, true, true, false, true, [⟨.imm, 0, 1, .row 1 (List.map (eK .u8) s_0.code)⟩, ⟨.imm, 0, 0, .sc (.int .i64 s_0.at_)⟩, ⟨.imm, 0, 0, .sc (.int .u64 s_0.seed)⟩]⟩)]) (nt := 11) rfl rfl Try.func87 rfl rfl rfl rfl ?_
  refine Go.seq ?_
  refine Go.r0 c87 rfl rfl (sq z87 (oAsI rfl rfl) <| nl) ?_
  refine Unw.seq ?_
  refine Go.seq ?_
  refine Go.seq ?_
  obtain ⟨x4, hx4, h⟩ := bs h
  refine Go.r0 c87 rfl rfl (sq z87 (oMv rfl rfl) <| sq z87 (oCa (xs := [.v false [.mp 0 0 0], .v false [.im 0 _]]) (vs := [(false, [.im 0 _])]) (v := .v false [.im 0 _]) (L_spec_l00Src_one hx4) (.inl rfl) rfl kF183_121_2 rfl (ppP rfl rfl rfl (ppC rfl pp0)) rfl rfl (pbP rfl rfl pb0) rfl rfl rfl) <| nl) ?_
  refine Unw.seq ?_
  by_cases hc1 : x4.1 = true
  · rw [if_pos hc1] at h
    refine Go.condT rfl (Iff.rfl.2 hc1) ?_
    refine Go.seq ?_
    obtain ⟨x7, hx7, h⟩ := bs h
    refine Go.r1 c87 rfl rfl (st1 := mk [(0, .v false [.mp 0 0 0])] [(0, some ⟨0, 0, true, true, false, true, [⟨.imm, 0, 1, .row 1 (List.map (eK .u8) x4.2.code)⟩, ⟨.imm, 0, 0, .sc (.int .i64 x4.2.at_)⟩, ⟨.imm, 0, 0, .sc (.int .u64 x4.2.seed)⟩]⟩)]) (by kernel_rfl) (sq z87 (oMv rfl rfl) <| sq z87 (oBS (es := List.map eI ([0, 1, 5, 20000, 20001] : List Int)) rfl sF27 rfl (ptC rfl (fxI fx0) rfl (ptC rfl (fxI fx0) rfl (ptC rfl (fxI fx0) rfl (ptC rfl (fxI fx0) rfl (ptC rfl (fxI fx0) rfl pt0))))) (flat0 rfl fun _ => rfl)) <| sq z87 (oCa (xs := [.v false [.mp 0 0 0], .v false [.own 6 0 0]]) (vs := [(false, [.im 0 _])]) (v := .v false [.im 0 _]) (L_spec_l00Src_among hx7) (.inl rfl) rfl kF99_121_27 rfl (ppP rfl rfl rfl (ppC rfl pp0)) rfl rfl (pbP rfl rfl pb0) rfl rfl rfl) <| sq z87 (oAsI rfl rfl) <| nl) ?_
    refine Unw.seq ?_
    refine Go.ret (Unw.ret ?_)
    cases h
    exact Fin_ret (fin_of rfl rF87 rfl (by kernel_rfl))
  · rw [if_neg hc1] at h
    refine Go.condF rfl (byF Iff.rfl hc1) ?_
    refine Go.skip ?_
    refine Unw.seq ?_
    refine Go.seq ?_
    obtain ⟨x9, hx9, h⟩ := bs h
    refine Go.r1 c87 rfl rfl (st1 := mk [(0, .v false [.mp 0 0 0])] [(0, some ⟨0, 0, true, true, false, true, [⟨.imm, 0, 1, .row 1 (List.map (eK .u8) x4.2.code)⟩, ⟨.imm, 0, 0, .sc (.int .i64 x4.2.at_)⟩, ⟨.imm, 0, 0, .sc (.int .u64 x4.2.seed)⟩]⟩)]) (by kernel_rfl) (sq z87 (oMv rfl rfl) <| sq z87 (oCa (xs := [.v false [.mp 0 0 0], .v false [.im 0 _]]) (vs := [(false, [.im 0 _])]) (v := .v false [.im 0 _]) (L_spec_l00Src_pick hx9) (.inl rfl) rfl kF184_121_2 rfl (ppP rfl rfl rfl (ppC rfl pp0)) rfl rfl (pbP rfl rfl pb0) rfl rfl rfl) <| sq z87 (oBi rfl rfl rfl rfl) <| sq z87 (oAsI rfl rfl) <| nl) ?_
    refine Unw.seq ?_
    refine Go.ret (Unw.ret ?_)
    cases h
    exact Fin_ret (fin_of rfl rF87 rfl (by kernel_rfl))
theorem L_spec_DrawBestMatches {code_0 : (List Int)} {r : ((List S_Feature) × (List S_Feature) × Int)} (h : spec_DrawBestMatches code_0 = some r) : FL Try.prog cfg 65 [.im 2 false [.row 1 (List.map (eK .u8) code_0)]] = some ([(false, [.ow 0 2 (List.map e_S_Feature r.1)]), (false, [.ow 0 2 (List.map e_S_Feature r.2.1)]), (false, [.im 0 (.sc (.int .i64 r.2.2))])], []) := by
  unfold spec_DrawBestMatches at h
  refine FL_goS (A := [(0, .v false [.im 2 (.row 1 (List.map (eK .u8) code_0))])]) (B := [(0, none)]) (nt := 18) rfl rfl Try.func65 rfl rfl rfl rfl ?_
  refine Go.seq ?_
  refine Go.r0 c65 rfl rfl (sq z65 (oAsN rfl rfl eF73) <| sq z65 (oAsN rfl rfl eF73) <| sq z65 (oAsI rfl rfl) <| nl) ?_
  refine Unw.seq ?_
  refine Go.seq ?_
  obtain ⟨x9, hx9, h⟩ := bs h
  refine Go.r0 c65 rfl rfl (sq z65 (oMv rfl rfl) <| sq z65 (oCp (xs := [.v false [.im 2 _]]) (L_spec_l00From hx9) (.inl rfl) rfl kF85_22 rfl (ppC rfl pp0) rfl rfl pb0 rfl) <| sq z65 (oAsP rfl rfl) <| nl) ?_
  refine Unw.seq ?_
  refine Go.seq ?_
  obtain ⟨x11, hx11, h⟩ := bs h
  refine Go.r0 c65 rfl rfl (sq z65 (oMv rfl rfl) <| sq z65 (oCr (xs := [.v false [.mp 9 0 0]]) (vs := [(false, [.own 11 0 0])]) (v := .v false [.own 11 0 0]) (c := ⟨.sh, 0, _⟩) (cs := []) (L_spec_l26DrawList hx11) (.inl rfl) rfl kF148_121 rfl (ppP rfl rfl rfl pp0) rfl rfl (pbP rfl rfl pb0) rfl rfl rfl) <| sq z65 (oAsO rfl rfl rfl rfl rfl) <| nl) ?_
  refine Unw.seq ?_
  refine Go.seq ?_
  obtain ⟨x13, hx13, h⟩ := bs h
  refine Go.r1 c65 rfl rfl (st1 := mk [(5, .v false [.mp 9 0 0]), (6, .v false [.own 6 0 0])] [(6, some ⟨0, 0, false, false, false, false, [⟨.sh, 0, 0, .row 2 (List.map e_S_Feature x11.1)⟩]⟩), (9, some ⟨0, 0, false, true, false, true, [⟨.imm, 0, 2, .row 1 (List.map (eK .u8) x11.2.code)⟩, ⟨.imm, 0, 0, .sc (.int .i64 x11.2.at_)⟩, ⟨.imm, 0, 0, .sc (.int .u64 x11.2.seed)⟩]⟩)]) (by kernel_rfl) (sq z65 (oMv rfl rfl) <| sq z65 (oCr (xs := [.v false [.mp 9 0 0]]) (vs := [(false, [.own 13 0 0])]) (v := .v false [.own 13 0 0]) (c := ⟨.sh, 0, _⟩) (cs := []) (L_spec_l26DrawList hx13) (.inl rfl) rfl kF148_121 rfl (ppP rfl rfl rfl pp0) rfl rfl (pbP rfl rfl pb0) rfl rfl rfl) <| sq z65 (oAsO rfl rfl rfl rfl rfl) <| nl) ?_
  refine Unw.seq ?_
  refine Go.seq ?_
  obtain ⟨x17, hx17, h⟩ := bs h
  refine Go.r1 c65 rfl rfl (st1 := mk [(5, .v false [.mp 9 0 0]), (6, .v false [.own 6 0 0]), (7, .v false [.own 7 0 0])] [(6, some ⟨0, 0, false, false, false, false, [⟨.sh, 0, 0, .row 2 (List.map e_S_Feature x11.1)⟩]⟩), (7, some ⟨0, 0, false, false, false, false, [⟨.sh, 0, 0, .row 2 (List.map e_S_Feature x13.1)⟩]⟩), (9, some ⟨0, 0, false, true, false, true, [⟨.imm, 0, 2, .row 1 (List.map (eK .u8) x13.2.code)⟩, ⟨.imm, 0, 0, .sc (.int .i64 x13.2.at_)⟩, ⟨.imm, 0, 0, .sc (.int .u64 x13.2.seed)⟩]⟩)]) (by kernel_rfl) (sq z65 (oMv rfl rfl) <| sq z65 (oMv rfl rfl) <| sq z65 (oMv rfl rfl) <| sq z65 (oCa (xs := [.v false [.mp 9 0 0]]) (vs := [(false, [.im 0 _])]) (v := .v false [.im 0 _]) (L_spec_l08DrawBudget hx17) (.inl rfl) rfl kF87_121 rfl (ppP rfl rfl rfl pp0) rfl rfl (pbP rfl rfl pb0) rfl rfl rfl) <| sq z65 (oAsO rfl rfl rfl rfl rfl) <| sq z65 (oAsO rfl rfl rfl rfl rfl) <| sq z65 (oAsI rfl rfl) <| nl) ?_
  refine Unw.seq ?_
  refine Go.ret (Unw.ret ?_)
  cases h
  exact Fin_ret (fin_of rfl rF65 rfl (by kernel_rfl))
theorem L_impl_IsName {s_0 : ByteArray} {r : Bool} (h : impl_IsName s_0 = some r) : FL Try.prog cfg 250 [.im 2 false [.sc (.string s_0)]] = some ([(false, [.im 0 (.sc (.bool r))])], []) := by
  unfold impl_IsName at h
  refine FL_goS (A := [(0, .v false [.im 2 (.sc (.string s_0))])]) (B := [(0, none)]) (nt := 50) rfl rfl Try.func250 rfl rfl rfl rfl ?_
  refine Go.seq ?_
  refine Go.r0 c250 rfl rfl (sq z250 (oAsI rfl rfl) <| nl) ?_
  refine Unw.seq ?_
  refine Go.seq ?_
  refine Go.seq ?_
  obtain ⟨t_21_m1, hm26, h⟩ := bs h
  refine Go.rX c250 rfl rfl rfl (mk [(0, sv s_0), (21, bv t_21_m1)] []) ?_ ?_
  · by_cases hc1 : (s_0.size : Int) < 1
    · rw [if_pos hc1] at hm26
      cases hm26
      exact ⟨_, sq z250 (oMv rfl rfl) <| sq z250 (oLnS rfl rfl uF9 rfl) <| sq z250 (oBi rfl rfl rfl rfl) <| sq z250 (oMv rfl rfl) <| sgF rfl rfl (iDec.2 hc1) rfl <| sgF rfl rfl (iDec.2 hc1) rfl <| sgF rfl rfl (iDec.2 hc1) rfl <| sq z250 (oPkT rfl rfl (iDec.2 hc1) rfl) <| sq z250 (oMv rfl rfl) <| sgF rfl rfl rfl rfl <| sgF rfl rfl rfl rfl <| sgF rfl rfl rfl rfl <| sq z250 (oPkT rfl rfl rfl rfl) <| sq z250 (oMv rfl rfl) <| sgF rfl rfl rfl rfl <| sgF rfl rfl rfl rfl <| sgF rfl rfl rfl rfl <| sq z250 (oPkT rfl rfl rfl rfl) <| nl, (by kernel_rfl)⟩
    · rw [if_neg hc1] at hm26
      by_cases hc2 : (s_0.size : Int) > 10
      · rw [if_pos hc2] at hm26
        cases hm26
        exact ⟨_, sq z250 (oMv rfl rfl) <| sq z250 (oLnS rfl rfl uF9 rfl) <| sq z250 (oBi rfl rfl rfl rfl) <| sq z250 (oMv rfl rfl) <| sgT z250 rfl rfl (byF iDec hc1) (oMv rfl rfl) <| sgT z250 rfl rfl (byF iDec hc1) (oLnS rfl rfl uF9 rfl) <| sgT z250 rfl rfl (byF iDec hc1) (oBi rfl rfl rfl rfl) <| sq z250 (oPkF rfl rfl (byF iDec hc1) rfl) <| sq z250 (oMv rfl rfl) <| sgF rfl rfl (iDec.2 hc2) rfl <| sgF rfl rfl (iDec.2 hc2) rfl <| sgF rfl rfl (iDec.2 hc2) rfl <| sq z250 (oPkT rfl rfl (iDec.2 hc2) rfl) <| sq z250 (oMv rfl rfl) <| sgF rfl rfl rfl rfl <| sgF rfl rfl rfl rfl <| sgF rfl rfl rfl rfl <| sq z250 (oPkT rfl rfl rfl rfl) <| nl, (by kernel_rfl)⟩
      · rw [if_neg hc2] at hm26
        obtain ⟨x14, hx14, hm26⟩ := bs hm26
        by_cases hc3 : x14 < 97
        · rw [if_pos hc3] at hm26
          cases hm26
          exact ⟨_, sq z250 (oMv rfl rfl) <| sq z250 (oLnS rfl rfl uF9 rfl) <| sq z250 (oBi rfl rfl rfl rfl) <| sq z250 (oMv rfl rfl) <| sgT z250 rfl rfl (byF iDec hc1) (oMv rfl rfl) <| sgT z250 rfl rfl (byF iDec hc1) (oLnS rfl rfl uF9 rfl) <| sgT z250 rfl rfl (byF iDec hc1) (oBi rfl rfl rfl rfl) <| sq z250 (oPkF rfl rfl (byF iDec hc1) rfl) <| sq z250 (oMv rfl rfl) <| sgT z250 rfl rfl (byF iDec hc2) (oMv rfl rfl) <| sgT z250 rfl rfl (byF iDec hc2) (oIx rfl hx14 uF9 rfl rfl) <| sgT z250 rfl rfl (byF iDec hc2) (oBi rfl rfl rfl rfl) <| sq z250 (oPkF rfl rfl (byF iDec hc2) rfl) <| sq z250 (oMv rfl rfl) <| sgF rfl rfl (iDec.2 hc3) rfl <| sgF rfl rfl (iDec.2 hc3) rfl <| sgF rfl rfl (iDec.2 hc3) rfl <| sq z250 (oPkT rfl rfl (iDec.2 hc3) rfl) <| nl, (by kernel_rfl)⟩
        · rw [if_neg hc3] at hm26
          obtain ⟨x19, hx19, hm26⟩ := bs hm26
          cases hm26
          exact ⟨_, sq z250 (oMv rfl rfl) <| sq z250 (oLnS rfl rfl uF9 rfl) <| sq z250 (oBi rfl rfl rfl rfl) <| sq z250 (oMv rfl rfl) <| sgT z250 rfl rfl (byF iDec hc1) (oMv rfl rfl) <| sgT z250 rfl rfl (byF iDec hc1) (oLnS rfl rfl uF9 rfl) <| sgT z250 rfl rfl (byF iDec hc1) (oBi rfl rfl rfl rfl) <| sq z250 (oPkF rfl rfl (byF iDec hc1) rfl) <| sq z250 (oMv rfl rfl) <| sgT z250 rfl rfl (byF iDec hc2) (oMv rfl rfl) <| sgT z250 rfl rfl (byF iDec hc2) (oIx rfl hx14 uF9 rfl rfl) <| sgT z250 rfl rfl (byF iDec hc2) (oBi rfl rfl rfl rfl) <| sq z250 (oPkF rfl rfl (byF iDec hc2) rfl) <| sq z250 (oMv rfl rfl) <| sgT z250 rfl rfl (byF iDec hc3) (oMv rfl rfl) <| sgT z250 rfl rfl (byF iDec hc3) (oIx rfl hx19 uF9 rfl rfl) <| sgT z250 rfl rfl (byF iDec hc3) (oBi rfl rfl rfl rfl) <| sq z250 (oPkF rfl rfl (byF iDec hc3) rfl) <| nl, (by kernel_rfl)⟩
  · refine Unw.seq ?_
    by_cases hc4 : t_21_m1 = true
    · rw [if_pos hc4] at h
      refine Go.condT rfl (Iff.rfl.2 hc4) ?_
      refine Go.seq ?_
      refine Go.r0 c250 rfl rfl (sq z250 (oAsI rfl rfl) <| nl) ?_
      refine Unw.seq ?_
      refine Go.ret (Unw.ret ?_)
      cases h
      exact Fin_ret (fin_of rfl rF250 rfl (by kernel_rfl))
    · rw [if_neg hc4] at h
      refine Go.condF rfl (byF Iff.rfl hc4) ?_
      refine Go.skip ?_
      refine Unw.seq ?_
      refine Go.seq ?_
      refine Go.seq ?_
      refine Go.r0 c250 rfl rfl (sq z250 (oAsI rfl rfl) <| nl) ?_
      refine Unw.seq ?_
      refine Go.block ?_
      obtain ⟨o, hl, h⟩ := bs h
      refine Go.lp c250 rfl _ (fun (i_3_l4 : Int) => mk [(0, sv s_0), (3, iv i_3_l4)] []) (fun (o : (Unit ⊕ Bool)) (p : Ex × St) => match o with | (.inl _) => p.1 = .exit 0 ∧ p.2.norm ([], []) = mk [] [] | (.inr r2) => p.1 = .ret ∧ fin Try.prog cfg 250 Try.f250 [.im 2 false [.sc (.string s_0)]] p.2 = some ([(false, [.im 0 (.sc (.bool r2))])], [])) hl (by kernel_rfl) ?_ ?_ ?_
      · intro o p hp e
        rcases o with u | r2 <;> exact nomatch (hp.1.symm.trans e)
      · rintro i_3_l4 o h
        unfold impl_IsName_l4 at h
        refine Go.seq ?_
        refine Go.seq ?_
        refine Go.r0 c250 rfl rfl (sq z250 (oMv rfl rfl) <| sq z250 (oMv rfl rfl) <| sq z250 (oLnS rfl rfl uF9 rfl) <| sq z250 (oBi rfl rfl rfl rfl) <| nl) ?_
        refine Unw.seq ?_
        by_cases hc19 : i_3_l4 < (s_0.size : Int)
        · rw [if_pos hc19] at h
          refine Go.condT rfl (iDec.2 hc19) ?_
          refine Go.skip ?_
          refine Unw.seq ?_
          refine Go.seq ?_
          refine Go.block ?_
          refine Go.seq ?_
          obtain ⟨x30, hx30, h⟩ := bs h
          obtain ⟨t_49_m6, hm25, h⟩ := bs h
          refine Go.rX c250 rfl rfl rfl (mk [(0, sv s_0), (3, iv i_3_l4), (49, bv t_49_m6)] []) ?_ ?_
          · by_cases hc20 : x30 < 97
            · rw [if_pos hc20] at hm25
              obtain ⟨x41, hx41, hm25⟩ := bs hm25
              by_cases hc21 : x41 < 48
              · rw [if_pos hc21] at hm25
                cases hm25
                exact ⟨_, sq z250 (oMv rfl rfl) <| sq z250 (oMv rfl rfl) <| sq z250 (oIx rfl hx30 uF9 rfl rfl) <| sq z250 (oBi rfl rfl rfl rfl) <| sq z250 (oMv rfl rfl) <| sgF rfl rfl (iDec.2 hc20) rfl <| sgF rfl rfl (iDec.2 hc20) rfl <| sgF rfl rfl (iDec.2 hc20) rfl <| sgF rfl rfl (iDec.2 hc20) rfl <| sq z250 (oPkT rfl rfl (iDec.2 hc20) rfl) <| sq z250 (oMv rfl rfl) <| sgT z250 rfl rfl rfl (oMv rfl rfl) <| sgT z250 rfl rfl rfl (oMv rfl rfl) <| sgT z250 rfl rfl rfl (oIx rfl hx41 uF9 rfl rfl) <| sgT z250 rfl rfl rfl (oBi rfl rfl rfl rfl) <| sgT z250 rfl rfl rfl (oMv rfl rfl) <| sgF rfl rfl (iDec.2 hc21) rfl <| sgF rfl rfl (iDec.2 hc21) rfl <| sgF rfl rfl (iDec.2 hc21) rfl <| sgF rfl rfl (iDec.2 hc21) rfl <| sgT z250 rfl rfl rfl (oPkT rfl rfl (iDec.2 hc21) rfl) <| sq z250 (oPkT rfl rfl rfl rfl) <| nl, (by kernel_rfl)⟩
              · rw [if_neg hc21] at hm25
                obtain ⟨x46, hx46, hm25⟩ := bs hm25
                cases hm25
                exact ⟨_, sq z250 (oMv rfl rfl) <| sq z250 (oMv rfl rfl) <| sq z250 (oIx rfl hx30 uF9 rfl rfl) <| sq z250 (oBi rfl rfl rfl rfl) <| sq z250 (oMv rfl rfl) <| sgF rfl rfl (iDec.2 hc20) rfl <| sgF rfl rfl (iDec.2 hc20) rfl <| sgF rfl rfl (iDec.2 hc20) rfl <| sgF rfl rfl (iDec.2 hc20) rfl <| sq z250 (oPkT rfl rfl (iDec.2 hc20) rfl) <| sq z250 (oMv rfl rfl) <| sgT z250 rfl rfl rfl (oMv rfl rfl) <| sgT z250 rfl rfl rfl (oMv rfl rfl) <| sgT z250 rfl rfl rfl (oIx rfl hx41 uF9 rfl rfl) <| sgT z250 rfl rfl rfl (oBi rfl rfl rfl rfl) <| sgT z250 rfl rfl rfl (oMv rfl rfl) <| sgT z250 rfl rfl (byF iDec hc21) (oMv rfl rfl) <| sgT z250 rfl rfl (byF iDec hc21) (oMv rfl rfl) <| sgT z250 rfl rfl (byF iDec hc21) (oIx rfl hx46 uF9 rfl rfl) <| sgT z250 rfl rfl (byF iDec hc21) (oBi rfl rfl rfl rfl) <| sgT z250 rfl rfl rfl (oPkF rfl rfl (byF iDec hc21) rfl) <| sq z250 (oPkT rfl rfl rfl rfl) <| nl, (by kernel_rfl)⟩
            · rw [if_neg hc20] at hm25
              obtain ⟨x35, hx35, hm25⟩ := bs hm25
              by_cases hc22 : x35 > 122
              · rw [if_pos hc22] at hm25
                obtain ⟨x41, hx41, hm25⟩ := bs hm25
                by_cases hc23 : x41 < 48
                · rw [if_pos hc23] at hm25
                  cases hm25
                  exact ⟨_, sq z250 (oMv rfl rfl) <| sq z250 (oMv rfl rfl) <| sq z250 (oIx rfl hx30 uF9 rfl rfl) <| sq z250 (oBi rfl rfl rfl rfl) <| sq z250 (oMv rfl rfl) <| sgT z250 rfl rfl (byF iDec hc20) (oMv rfl rfl) <| sgT z250 rfl rfl (byF iDec hc20) (oMv rfl rfl) <| sgT z250 rfl rfl (byF iDec hc20) (oIx rfl hx35 uF9 rfl rfl) <| sgT z250 rfl rfl (byF iDec hc20) (oBi rfl rfl rfl rfl) <| sq z250 (oPkF rfl rfl (byF iDec hc20) rfl) <| sq z250 (oMv rfl rfl) <| sgT z250 rfl rfl (iDec.2 hc22) (oMv rfl rfl) <| sgT z250 rfl rfl (iDec.2 hc22) (oMv rfl rfl) <| sgT z250 rfl rfl (iDec.2 hc22) (oIx rfl hx41 uF9 rfl rfl) <| sgT z250 rfl rfl (iDec.2 hc22) (oBi rfl rfl rfl rfl) <| sgT z250 rfl rfl (iDec.2 hc22) (oMv rfl rfl) <| sgF rfl rfl (iDec.2 hc23) rfl <| sgF rfl rfl (iDec.2 hc23) rfl <| sgF rfl rfl (iDec.2 hc23) rfl <| sgF rfl rfl (iDec.2 hc23) rfl <| sgT z250 rfl rfl (iDec.2 hc22) (oPkT rfl rfl (iDec.2 hc23) rfl) <| sq z250 (oPkT rfl rfl (iDec.2 hc22) rfl) <| nl, (by kernel_rfl)⟩
                · rw [if_neg hc23] at hm25
                  obtain ⟨x46, hx46, hm25⟩ := bs hm25
                  cases hm25
                  exact ⟨_, sq z250 (oMv rfl rfl) <| sq z250 (oMv rfl rfl) <| sq z250 (oIx rfl hx30 uF9 rfl rfl) <| sq z250 (oBi rfl rfl rfl rfl) <| sq z250 (oMv rfl rfl) <| sgT z250 rfl rfl (byF iDec hc20) (oMv rfl rfl) <| sgT z250 rfl rfl (byF iDec hc20) (oMv rfl rfl) <| sgT z250 rfl rfl (byF iDec hc20) (oIx rfl hx35 uF9 rfl rfl) <| sgT z250 rfl rfl (byF iDec hc20) (oBi rfl rfl rfl rfl) <| sq z250 (oPkF rfl rfl (byF iDec hc20) rfl) <| sq z250 (oMv rfl rfl) <| sgT z250 rfl rfl (iDec.2 hc22) (oMv rfl rfl) <| sgT z250 rfl rfl (iDec.2 hc22) (oMv rfl rfl) <| sgT z250 rfl rfl (iDec.2 hc22) (oIx rfl hx41 uF9 rfl rfl) <| sgT z250 rfl rfl (iDec.2 hc22) (oBi rfl rfl rfl rfl) <| sgT z250 rfl rfl (iDec.2 hc22) (oMv rfl rfl) <| sgT z250 rfl rfl (byF iDec hc23) (oMv rfl rfl) <| sgT z250 rfl rfl (byF iDec hc23) (oMv rfl rfl) <| sgT z250 rfl rfl (byF iDec hc23) (oIx rfl hx46 uF9 rfl rfl) <| sgT z250 rfl rfl (byF iDec hc23) (oBi rfl rfl rfl rfl) <| sgT z250 rfl rfl (iDec.2 hc22) (oPkF rfl rfl (byF iDec hc23) rfl) <| sq z250 (oPkT rfl rfl (iDec.2 hc22) rfl) <| nl, (by kernel_rfl)⟩
              · rw [if_neg hc22] at hm25
                cases hm25
                exact ⟨_, sq z250 (oMv rfl rfl) <| sq z250 (oMv rfl rfl) <| sq z250 (oIx rfl hx30 uF9 rfl rfl) <| sq z250 (oBi rfl rfl rfl rfl) <| sq z250 (oMv rfl rfl) <| sgT z250 rfl rfl (byF iDec hc20) (oMv rfl rfl) <| sgT z250 rfl rfl (byF iDec hc20) (oMv rfl rfl) <| sgT z250 rfl rfl (byF iDec hc20) (oIx rfl hx35 uF9 rfl rfl) <| sgT z250 rfl rfl (byF iDec hc20) (oBi rfl rfl rfl rfl) <| sq z250 (oPkF rfl rfl (byF iDec hc20) rfl) <| sq z250 (oMv rfl rfl) <| sgF rfl rfl (byF iDec hc22) rfl <| sgF rfl rfl (byF iDec hc22) rfl <| sgF rfl rfl (byF iDec hc22) rfl <| sgF rfl rfl (byF iDec hc22) rfl <| sgF rfl rfl (byF iDec hc22) rfl <| sgU rfl rfl rfl <| sgU rfl rfl rfl <| sgU rfl rfl rfl <| sgU rfl rfl rfl <| sgF rfl rfl (byF iDec hc22) rfl <| sq z250 (oPkF rfl rfl (byF iDec hc22) rfl) <| nl, (by kernel_rfl)⟩
          · refine Unw.seq ?_
            by_cases hc24 : t_49_m6 = true
            · rw [if_pos hc24] at h
              refine Go.condT rfl (Iff.rfl.2 hc24) ?_
              refine Go.seq ?_
              refine Go.r0 c250 rfl rfl (sq z250 (oAsI rfl rfl) <| nl) ?_
              refine Unw.seq ?_
              refine Go.ret (Unw.ret ?_)
              cases h
              exact ⟨rfl, (fin_of rfl rF250 rfl (by kernel_rfl))⟩
            · rw [if_neg hc24] at h
              refine Go.condF rfl (byF Iff.rfl hc24) ?_
              refine Go.skip ?_
              refine Unw.blk ?_
              refine Unw.seq ?_
              refine Go.r0 c250 rfl rfl (sq z250 (oMv rfl rfl) <| sq z250 (oBi rfl rfl rfl rfl) <| sq z250 (oAsI rfl rfl) <| nl) ?_
              refine Unw.nil ?_
              cases h
              exact ⟨rfl, (by kernel_rfl)⟩
        · rw [if_neg hc19] at h
          refine Go.condF rfl (byF iDec hc19) ?_
          refine Go.exit ?_
          refine Unw.seqx ?_
          refine Unw.nil ?_
          cases h
          exact ⟨rfl, (by kernel_rfl)⟩
      · rintro ⟨e, st⟩ hp
        rcases o with u | r2
        · dsimp only at h
          obtain ⟨he, hst⟩ := hp
          obtain rfl : e = .exit 0 := he
          refine Unw.blkx ?_
          refine Unw.seq ?_
          refine Go.seq ?_
          refine Go.r1 c250 rfl rfl hst (sq z250 (oAsI rfl rfl) <| nl) ?_
          refine Unw.seq ?_
          refine Go.ret (Unw.ret ?_)
          cases h
          exact Fin_ret (fin_of rfl rF250 rfl (by kernel_rfl))
        · dsimp only at h
          obtain ⟨he, hfin⟩ := hp
          obtain rfl : e = .ret := he
          cases h
          exact Unw.ret (Fin_ret hfin)
theorem L_impl_within {n_0 : Int} {low_1 : Int} {high_2 : Int} {r : Bool} (h : impl_within n_0 low_1 high_2 = some r) : FL Try.prog cfg 92 [.im 2 false [.sc (.int .i64 n_0)], .im 2 false [.sc (.int .i64 low_1)], .im 2 false [.sc (.int .i64 high_2)]] = some ([(false, [.im 0 (.sc (.bool r))])], []) := by
  unfold impl_within at h
  refine FL_goS (A := [(0, .v false [.im 2 (.sc (.int .i64 n_0))]), (1, .v false [.im 2 (.sc (.int .i64 low_1))]), (2, .v false [.im 2 (.sc (.int .i64 high_2))])]) (B := [(0, none), (1, none), (2, none)]) (nt := 15) rfl rfl Try.func92 rfl rfl rfl rfl ?_
  refine Go.seq ?_
  refine Go.r0 c92 rfl rfl (sq z92 (oAsI rfl rfl) <| nl) ?_
  refine Unw.seq ?_
  refine Go.seq ?_
  refine Go.rX c92 rfl rfl rfl (mk [(6, bv ((decide (n_0 ≥ low_1)) && (decide (n_0 ≤ high_2))))] []) ?_ ?_
  · by_cases hc1 : n_0 ≥ low_1
    · exact ⟨_, sq z92 (oMv rfl rfl) <| sq z92 (oMv rfl rfl) <| sq z92 (oBi rfl rfl rfl rfl) <| sq z92 (oMv rfl rfl) <| sgT z92 rfl rfl (iDec.2 hc1) (oMv rfl rfl) <| sgT z92 rfl rfl (iDec.2 hc1) (oMv rfl rfl) <| sgT z92 rfl rfl (iDec.2 hc1) (oBi rfl rfl rfl rfl) <| sq z92 (oPkT rfl rfl (iDec.2 hc1) rfl) <| sq z92 (oAsI rfl rfl) <| nl, (Eq.trans (b := (fun t_6_m1 : Bool => mk [(6, bv t_6_m1)] []) (decide (n_0 ≤ high_2))) (by kernel_rfl) (congrArg (fun t_6_m1 : Bool => mk [(6, bv t_6_m1)] []) (by first | rfl | (simp [(iDec.2 hc1)]; done) | (simp [(iDec.2 hc1)]; omega))))⟩
    · exact ⟨_, sq z92 (oMv rfl rfl) <| sq z92 (oMv rfl rfl) <| sq z92 (oBi rfl rfl rfl rfl) <| sq z92 (oMv rfl rfl) <| sgF rfl rfl (byF iDec hc1) rfl <| sgF rfl rfl (byF iDec hc1) rfl <| sgF rfl rfl (byF iDec hc1) rfl <| sq z92 (oPkF rfl rfl (byF iDec hc1) rfl) <| sq z92 (oAsI rfl rfl) <| nl, (Eq.trans (b := (fun t_6_m1 : Bool => mk [(6, bv t_6_m1)] []) false) (by kernel_rfl) (congrArg (fun t_6_m1 : Bool => mk [(6, bv t_6_m1)] []) (by first | rfl | (simp [(byF iDec hc1)]; done) | (simp [(byF iDec hc1)]; omega))))⟩
  · refine Unw.seq ?_
    refine Go.ret (Unw.ret ?_)
    cases h
    exact Fin_ret (fin_of rfl rF92 rfl (by kernel_rfl))
theorem L_impl_ValidFeature_c1 {n_0 : Int} {r : Bool} (h : impl_ValidFeature_c1 n_0 = some r) : FL Try.prog cfg 266 [.im 2 false [.sc (.int .i64 n_0)]] = some ([(false, [.im 0 (.sc (.bool r))])], []) := by
  unfold impl_ValidFeature_c1 at h
  refine FL_goS (A := [(0, .v false [.im 2 (.sc (.int .i64 n_0))])]) (B := [(0, none)]) (nt := 6) rfl rfl Try.func266 rfl rfl rfl rfl ?_
  refine Go.seq ?_
  refine Go.r0 c266 rfl rfl (sq z266 (oAsI rfl rfl) <| nl) ?_
  refine Unw.seq ?_
  refine Go.seq ?_
  obtain ⟨x4, hx4, h⟩ := bs h
  refine Go.r0 c266 rfl rfl (sq z266 (oMv rfl rfl) <| sq z266 (oCa (xs := [.v false [.im 2 _], .v false [.im 0 _], .v false [.im 0 _]]) (vs := [(false, [.im 0 _])]) (v := .v false [.im 0 _]) (L_impl_within hx4) (.inl rfl) rfl kF92_2_2_2 rfl (ppC rfl (ppC rfl (ppC rfl pp0))) rfl rfl pb0 rfl rfl rfl) <| sq z266 (oUn rfl rfl rfl) <| sq z266 (oAsI rfl rfl) <| nl) ?_
  refine Unw.seq ?_
  refine Go.ret (Unw.ret ?_)
  cases h
  exact Fin_ret (fin_of rfl rF266 rfl (by kernel_rfl))
theorem L_slices_IndexFunc_int64_int64_266 {s_0 : (List Int)} {r : Int} (h : slices_IndexFunc_int64_int64 s_0 (fun b0 => impl_ValidFeature_c1 b0) = some r) : FL Try.prog cfg 150 [.im 2 false [.row 1 (List.map eI s_0)], .im 2 false [.clo 266 []]] = some ([(false, [.im 0 (.sc (.int .i64 r))])], []) := by
  unfold slices_IndexFunc_int64_int64 at h
  refine FL_goS (A := [(0, .v false [.im 2 (.row 1 (List.map eI s_0))]), (1, .v false [.im 2 (.clo 266 [])])]) (B := [(0, none), (1, none)]) (nt := 19) rfl rfl Try.func150 rfl rfl rfl rfl ?_
  refine Go.seq ?_
  refine Go.r0 c150 rfl rfl (sq z150 (oAsI rfl rfl) <| nl) ?_
  refine Unw.seq ?_
  refine Go.seq ?_
  refine Go.seq ?_
  refine Go.r0 c150 rfl rfl (sq z150 (oMv rfl rfl) <| sq z150 (oLnI rfl rfl uF27 rfl) <| sq z150 (oMv rfl rfl) <| nl) ?_
  refine Unw.seq ?_
  refine Go.block ?_
  obtain ⟨o, hl, h⟩ := bs h
  refine Go.lp c150 rfl _ (fun (t_8_l2 : Int) => mk [(0, .v false [.im 2 (.row 1 (List.map eI s_0))]), (1, .v false [.im 2 (.clo 266 [])]), (7, iv (s_0.length : Int)), (8, iv t_8_l2)] []) (fun (o : (Unit ⊕ Int)) (p : Ex × St) => match o with | (.inl _) => p.1 = .exit 0 ∧ p.2.norm ([], []) = mk [] [] | (.inr r2) => p.1 = .ret ∧ fin Try.prog cfg 150 Try.f150 [.im 2 false [.row 1 (List.map eI s_0)], .im 2 false [.clo 266 []]] p.2 = some ([(false, [.im 0 (.sc (.int .i64 r2))])], [])) hl (by kernel_rfl) ?_ ?_ ?_
  · intro o p hp e
    rcases o with u | r2 <;> exact nomatch (hp.1.symm.trans e)
  · rintro t_8_l2 o h
    unfold slices_IndexFunc_int64_int64_l2 at h
    refine Go.seq ?_
    refine Go.r0 c150 rfl rfl (sq z150 (oBi rfl rfl rfl rfl) <| nl) ?_
    refine Unw.seq ?_
    refine Go.seq ?_
    by_cases hc5 : t_8_l2 < (s_0.length : Int)
    · rw [if_pos hc5] at h
      refine Go.condT rfl (iDec.2 hc5) ?_
      refine Go.skip ?_
      refine Unw.seq ?_
      refine Go.seq ?_
      refine Go.block ?_
      refine Go.seq ?_
      refine Go.r0 c150 rfl rfl (sq z150 (oMv rfl rfl) <| sq z150 (oAsI rfl rfl) <| nl) ?_
      refine Unw.seq ?_
      refine Go.seq ?_
      obtain ⟨x14, hx14, h⟩ := bs h
      obtain ⟨x16, hx16, h⟩ := bs h
      refine Go.r0 c150 rfl rfl (sq z150 (oMv rfl rfl) <| sq z150 (oMv rfl rfl) <| sq z150 (oMv rfl rfl) <| sq z150 (oIAI rfl hx14 sF27 rfl rfl) <| sq z150 (oLd (cs := [.im 2 _]) rfl tF2 rfl rfl) <| sq z150 (oCa (xs := [.v false [.im 2 _]]) (vs := [(false, [.im 0 _])]) (v := .v false [.im 0 _]) (L_impl_ValidFeature_c1 hx16) (.inr ⟨_, _, rfl, rfl⟩) rfl kF266_2 rfl (ppC rfl pp0) rfl rfl pb0 rfl rfl rfl) <| nl) ?_
      refine Unw.seq ?_
      by_cases hc6 : x16 = true
      · rw [if_pos hc6] at h
        refine Go.condT rfl (Iff.rfl.2 hc6) ?_
        refine Go.seq ?_
        refine Go.r0 c150 rfl rfl (sq z150 (oMv rfl rfl) <| sq z150 (oAsI rfl rfl) <| nl) ?_
        refine Unw.seq ?_
        refine Go.ret (Unw.ret ?_)
        cases h
        exact ⟨rfl, (fin_of rfl rF150 rfl (by kernel_rfl))⟩
      · rw [if_neg hc6] at h
        refine Go.condF rfl (byF Iff.rfl hc6) ?_
        refine Go.skip ?_
        refine Unw.blk ?_
        refine Unw.seq ?_
        refine Go.r0 c150 rfl rfl (sq z150 (oBi rfl rfl rfl rfl) <| sq z150 (oMv rfl rfl) <| nl) ?_
        refine Unw.nil ?_
        cases h
        exact ⟨rfl, (by kernel_rfl)⟩
    · rw [if_neg hc5] at h
      refine Go.condF rfl (byF iDec hc5) ?_
      refine Go.exit ?_
      refine Unw.seqx ?_
      refine Unw.nil ?_
      cases h
      exact ⟨rfl, (by kernel_rfl)⟩
  · rintro ⟨e, st⟩ hp
    rcases o with u | r2
    · dsimp only at h
      obtain ⟨he, hst⟩ := hp
      obtain rfl : e = .exit 0 := he
      refine Unw.blkx ?_
      refine Unw.seq ?_
      refine Go.seq ?_
      refine Go.r1 c150 rfl rfl hst (sq z150 (oAsI rfl rfl) <| nl) ?_
      refine Unw.seq ?_
      refine Go.ret (Unw.ret ?_)
      cases h
      exact Fin_ret (fin_of rfl rF150 rfl (by kernel_rfl))
    · dsimp only at h
      obtain ⟨he, hfin⟩ := hp
      obtain rfl : e = .ret := he
      cases h
      exact Unw.ret (Fin_ret hfin)
theorem L_slices_ContainsFunc_int64_int64_266 {s_0 : (List Int)} {r : Bool} (h : slices_ContainsFunc_int64_int64 s_0 (fun b0 => impl_ValidFeature_c1 b0) = some r) : FL Try.prog cfg 95 [.im 2 false [.row 1 (List.map eI s_0)], .im 2 false [.clo 266 []]] = some ([(false, [.im 0 (.sc (.bool r))])], []) := by
  unfold slices_ContainsFunc_int64_int64 at h
  refine FL_goS (A := [(0, .v false [.im 2 (.row 1 (List.map eI s_0))]), (1, .v false [.im 2 (.clo 266 [])])]) (B := [(0, none), (1, none)]) (nt := 9) rfl rfl Try.func95 rfl rfl rfl rfl ?_
  refine Go.seq ?_
  refine Go.r0 c95 rfl rfl (sq z95 (oAsI rfl rfl) <| nl) ?_
  refine Unw.seq ?_
  refine Go.seq ?_
  obtain ⟨x7, hx7, h⟩ := bs h
  refine Go.r0 c95 rfl rfl (sq z95 (oMv rfl rfl) <| sq z95 (oMv rfl rfl) <| sq z95 (oCa (xs := [.v false [.im 2 _], .v false [.im 2 _]]) (vs := [(false, [.im 0 _])]) (v := .v false [.im 0 _]) (L_slices_IndexFunc_int64_int64_266 hx7) (.inl rfl) rfl kF150_27_139 rfl (ppC rfl (ppC rfl pp0)) rfl rfl pb0 rfl rfl rfl) <| sq z95 (oBi rfl rfl rfl rfl) <| sq z95 (oAsI rfl rfl) <| nl) ?_
  refine Unw.seq ?_
  refine Go.ret (Unw.ret ?_)
  cases h
  exact Fin_ret (fin_of rfl rF95 rfl (by kernel_rfl))
theorem L_impl_ValidFeature {f_0 : S_Feature} {r : Bool} (h : impl_ValidFeature f_0 = some r) : FL Try.prog cfg 228 [.im 2 true [.sc (.string f_0.Id), .row 1 (List.map eI f_0.Values)]] = some ([(false, [.im 0 (.sc (.bool r))])], []) := by
  unfold impl_ValidFeature at h
  refine FL_goS (A := [(0, .v true [.im 2 (.sc (.string f_0.Id)), .im 2 (.row 1 (List.map eI f_0.Values))])]) (B := [(0, none)]) (nt := 18) rfl rfl Try.func228 rfl rfl rfl rfl ?_
  refine Go.seq ?_
  refine Go.r0 c228 rfl rfl (sq z228 (oBx rfl tF194 rfl (tkI (tkI tk0))) <| sq z228 (oAsI rfl rfl) <| nl) ?_
  refine Unw.seq ?_
  refine Go.seq ?_
  obtain ⟨x5, hx5, h⟩ := bs h
  obtain ⟨t_2_m1, hm3, h⟩ := bs h
  refine Go.rX c228 rfl rfl rfl (mk [(2, bv t_2_m1)] []) ?_ ?_
  · by_cases hc1 : x5 = true
    · rw [if_pos hc1] at hm3
      by_cases hc2 : (f_0.Values.length : Int) = 6
      · rw [if_pos hc2] at hm3
        obtain ⟨x15, hx15, hm3⟩ := bs hm3
        cases hm3
        exact ⟨_, sq z228 (oFA (r' := .mp 1 0 0) rfl fF194_0 rfl rfl) <| sq z228 (oLd (cs := [.im 0 _]) rfl tF9 rfl rfl) <| sq z228 (oCa (xs := [.v false [.im 0 _]]) (vs := [(false, [.im 0 _])]) (v := .v false [.im 0 _]) (L_impl_IsName hx5) (.inl rfl) rfl kF250_9 rfl (ppC rfl pp0) rfl rfl pb0 rfl rfl rfl) <| sq z228 (oMv rfl rfl) <| sgT z228 rfl rfl (Iff.rfl.2 hc1) (oFA (r' := .mp 1 0 1) rfl fF194_1 rfl rfl) <| sgT z228 rfl rfl (Iff.rfl.2 hc1) (oLd (cs := [.im 2 _]) rfl tF27 rfl rfl) <| sgT z228 rfl rfl (Iff.rfl.2 hc1) (oLnI rfl rfl uF27 rfl) <| sgT z228 rfl rfl (Iff.rfl.2 hc1) (oBi rfl rfl rfl rfl) <| sq z228 (oPkT rfl rfl (Iff.rfl.2 hc1) rfl) <| sq z228 (oMv rfl rfl) <| sgT z228 rfl rfl (iEq.2 hc2) (oFA (r' := .mp 1 0 1) rfl fF194_1 rfl rfl) <| sgT z228 rfl rfl (iEq.2 hc2) (oLd (cs := [.im 2 _]) rfl tF27 rfl rfl) <| sgT z228 rfl rfl (iEq.2 hc2) (oCa (xs := [.v false [.im 2 _], .fn 266 []]) (vs := [(false, [.im 0 _])]) (v := .v false [.im 0 _]) (L_slices_ContainsFunc_int64_int64_266 hx15) (.inl rfl) rfl kF95_27_139 rfl (ppC rfl (ppC rfl pp0)) rfl rfl pb0 rfl rfl rfl) <| sgT z228 rfl rfl (iEq.2 hc2) (oUn rfl rfl rfl) <| sq z228 (oPkT rfl rfl (iEq.2 hc2) rfl) <| sq z228 (oAsI rfl rfl) <| nl, (by kernel_rfl)⟩
      · rw [if_neg hc2] at hm3
        cases hm3
        exact ⟨_, sq z228 (oFA (r' := .mp 1 0 0) rfl fF194_0 rfl rfl) <| sq z228 (oLd (cs := [.im 0 _]) rfl tF9 rfl rfl) <| sq z228 (oCa (xs := [.v false [.im 0 _]]) (vs := [(false, [.im 0 _])]) (v := .v false [.im 0 _]) (L_impl_IsName hx5) (.inl rfl) rfl kF250_9 rfl (ppC rfl pp0) rfl rfl pb0 rfl rfl rfl) <| sq z228 (oMv rfl rfl) <| sgT z228 rfl rfl (Iff.rfl.2 hc1) (oFA (r' := .mp 1 0 1) rfl fF194_1 rfl rfl) <| sgT z228 rfl rfl (Iff.rfl.2 hc1) (oLd (cs := [.im 2 _]) rfl tF27 rfl rfl) <| sgT z228 rfl rfl (Iff.rfl.2 hc1) (oLnI rfl rfl uF27 rfl) <| sgT z228 rfl rfl (Iff.rfl.2 hc1) (oBi rfl rfl rfl rfl) <| sq z228 (oPkT rfl rfl (Iff.rfl.2 hc1) rfl) <| sq z228 (oMv rfl rfl) <| sgF rfl rfl (byF iEq hc2) rfl <| sgF rfl rfl (byF iEq hc2) rfl <| sgF rfl rfl (byF iEq hc2) rfl <| sgF rfl rfl (byF iEq hc2) rfl <| sq z228 (oPkF rfl rfl (byF iEq hc2) rfl) <| sq z228 (oAsI rfl rfl) <| nl, (by kernel_rfl)⟩
    · rw [if_neg hc1] at hm3
      cases hm3
      exact ⟨_, sq z228 (oFA (r' := .mp 1 0 0) rfl fF194_0 rfl rfl) <| sq z228 (oLd (cs := [.im 0 _]) rfl tF9 rfl rfl) <| sq z228 (oCa (xs := [.v false [.im 0 _]]) (vs := [(false, [.im 0 _])]) (v := .v false [.im 0 _]) (L_impl_IsName hx5) (.inl rfl) rfl kF250_9 rfl (ppC rfl pp0) rfl rfl pb0 rfl rfl rfl) <| sq z228 (oMv rfl rfl) <| sgF rfl rfl (byF Iff.rfl hc1) rfl <| sgF rfl rfl (byF Iff.rfl hc1) rfl <| sgF rfl rfl (byF Iff.rfl hc1) rfl <| sgF rfl rfl (byF Iff.rfl hc1) rfl <| sq z228 (oPkF rfl rfl (byF Iff.rfl hc1) rfl) <| sq z228 (oMv rfl rfl) <| sgF rfl rfl rfl rfl <| sgF rfl rfl rfl rfl <| sgF rfl rfl rfl rfl <| sgF rfl rfl rfl rfl <| sq z228 (oPkF rfl rfl rfl rfl) <| sq z228 (oAsI rfl rfl) <| nl, (by kernel_rfl)⟩
  · refine Unw.seq ?_
    refine Go.ret (Unw.ret ?_)
    cases h
    exact Fin_ret (fin_of rfl rF228 rfl (by kernel_rfl))
theorem L_impl_ValidFeatures {list_0 : (List S_Feature)} {r : Bool} (h : impl_ValidFeatures list_0 = some r) : FL Try.prog cfg 153 [.im 2 false [.row 2 (List.map e_S_Feature list_0)]] = some ([(false, [.im 0 (.sc (.bool r))])], []) := by
  unfold impl_ValidFeatures at h
  refine FL_goS (A := [(0, .v false [.im 2 (.row 2 (List.map e_S_Feature list_0))])]) (B := [(0, none)]) (nt := 34) rfl rfl Try.func153 rfl rfl rfl rfl ?_
  refine Go.seq ?_
  refine Go.r0 c153 rfl rfl (sq z153 (oAsI rfl rfl) <| nl) ?_
  refine Unw.seq ?_
  refine Go.seq ?_
  refine Go.seq ?_
  refine Go.r0 c153 rfl rfl (sq z153 (oMv rfl rfl) <| sq z153 (oLnI rfl rfl uF73 rfl) <| sq z153 (oMv rfl rfl) <| nl) ?_
  refine Unw.seq ?_
  refine Go.block ?_
  obtain ⟨o, hl, h⟩ := bs h
  refine Go.lp c153 rfl _ (fun (t_7_l2 : Int) => mk [(0, .v false [.im 2 (.row 2 (List.map e_S_Feature list_0))]), (5, .v false [.im 2 (.row 2 (List.map e_S_Feature list_0))]), (6, iv (list_0.length : Int)), (7, iv t_7_l2)] []) (fun (o : (Unit ⊕ Bool)) (p : Ex × St) => match o with | (.inl _) => p.1 = .exit 0 ∧ p.2.norm ([0], []) = mk [(0, .v false [.im 2 (.row 2 (List.map e_S_Feature list_0))])] [] | (.inr r2) => p.1 = .ret ∧ fin Try.prog cfg 153 Try.f153 [.im 2 false [.row 2 (List.map e_S_Feature list_0)]] p.2 = some ([(false, [.im 0 (.sc (.bool r2))])], [])) hl (by kernel_rfl) ?_ ?_ ?_
  · intro o p hp e
    rcases o with u | r2 <;> exact nomatch (hp.1.symm.trans e)
  · rintro t_7_l2 o h
    unfold impl_ValidFeatures_l2 at h
    refine Go.seq ?_
    refine Go.r0 c153 rfl rfl (sq z153 (oBi rfl rfl rfl rfl) <| nl) ?_
    refine Unw.seq ?_
    refine Go.seq ?_
    by_cases hc11 : t_7_l2 < (list_0.length : Int)
    · rw [if_pos hc11] at h
      refine Go.condT rfl (iDec.2 hc11) ?_
      refine Go.skip ?_
      refine Unw.seq ?_
      refine Go.seq ?_
      refine Go.block ?_
      refine Go.seq ?_
      obtain ⟨x10, hx10, h⟩ := bs h
      refine Go.r0 c153 rfl rfl (sq z153 (oMv rfl rfl) <| sq z153 (oIAI rfl hx10 sF73 rfl rfl) <| sq z153 (oLd (cs := [.im 2 _, .im 2 _]) rfl tF194 rfl rfl) <| sq z153 (oAl rfl tF194 (tkI (tkN tk0))) <| sq z153 (oAsI rfl rfl) <| sq z153 (oSt tF194 rfl rfl rfl (tkI (tkI tk0)) rfl rfl rfl) <| nl) ?_
      refine Unw.seq ?_
      refine Go.seq ?_
      obtain ⟨x13, hx13, h⟩ := bs h
      obtain ⟨t_29_m4, hm15, h⟩ := bs h
      refine Go.dr c153 rfl rfl rfl (st1 := mk [(0, .v false [.im 2 (.row 2 (List.map e_S_Feature list_0))]), (3, iv t_7_l2), (4, .v false [.mp 4 0 0]), (5, .v false [.im 2 (.row 2 (List.map e_S_Feature list_0))]), (6, iv (list_0.length : Int)), (7, iv t_7_l2)] [(4, some ⟨0, 0, false, true, false, true, [⟨.imm, 0, 0, .sc (.string x10.Id)⟩, ⟨.imm, 0, 2, .row 1 (List.map eI x10.Values)⟩]⟩)]) (by kernel_rfl) (mk [(0, .v false [.im 2 (.row 2 (List.map e_S_Feature list_0))]), (5, .v false [.im 2 (.row 2 (List.map e_S_Feature list_0))]), (6, iv (list_0.length : Int)), (7, iv t_7_l2), (29, bv t_29_m4)] []) ?_ ?_
      · by_cases hc12 : x13 = true
        · rw [if_pos hc12] at hm15
          by_cases hc13 : t_7_l2 > 0
          · rw [if_pos hc13] at hm15
            obtain ⟨x22, hx22, hm15⟩ := bs hm15
            cases hm15
            exact sT rfl (dN z153 rfl (oLd (cs := [.im 0 _, .im 2 _]) rfl tF194 rfl rfl)) <| sS (dN z153 rfl (oCa (xs := [.v true [.im 0 _, .im 2 _]]) (vs := [(false, [.im 0 _])]) (v := .v false [.im 0 _]) (L_impl_ValidFeature hx13) (.inl rfl) rfl kF228_194 rfl (ppC rfl pp0) rfl rfl pb0 rfl rfl rfl)) trivial (sT rfl (dN z153 rfl (oUn rfl rfl rfl)) <| sT rfl (dN z153 rfl (oMv rfl rfl)) <| sT rfl (dT z153 rfl rfl rfl (nF (Iff.rfl.2 hc12)) (oMv rfl rfl)) <| sT rfl (dT z153 rfl rfl rfl (nF (Iff.rfl.2 hc12)) (oBi rfl rfl rfl rfl)) <| sT rfl (dT z153 rfl rfl rfl (nF (Iff.rfl.2 hc12)) (oMv rfl rfl)) <| sT rfl (dT z153 rfl rfl rfl (iDec.2 hc13) (oMv rfl rfl)) <| sT rfl (dT z153 rfl rfl rfl (iDec.2 hc13) (oMv rfl rfl)) <| sT rfl (dT z153 rfl rfl rfl (iDec.2 hc13) (oBi rfl rfl rfl rfl)) <| sT rfl (dT z153 rfl rfl rfl (iDec.2 hc13) (oIAI rfl hx22 sF73 rfl rfl)) <| sT rfl (dT z153 rfl rfl rfl (iDec.2 hc13) (oFA (r' := .im 2 _) rfl fF194_0 rfl rfl)) <| sT rfl (dT z153 rfl rfl rfl (iDec.2 hc13) (oLd (cs := [.im 2 _]) rfl tF9 rfl rfl)) <| sT rfl (dT z153 rfl rfl rfl (iDec.2 hc13) (oFA (r' := .mp 4 0 0) rfl fF194_0 rfl rfl)) <| sT rfl (dT z153 rfl rfl rfl (iDec.2 hc13) (oLd (cs := [.im 0 _]) rfl tF9 rfl rfl)) <| sT rfl (dT z153 rfl rfl rfl (iDec.2 hc13) (oBi rfl rfl rfl rfl)) <| sT rfl (dT z153 rfl rfl rfl (nF (Iff.rfl.2 hc12)) (oPkT rfl rfl (iDec.2 hc13) rfl)) <| sT rfl (dN z153 rfl (oPkF rfl rfl (nF (Iff.rfl.2 hc12)) rfl)) <| sD (by kernel_rfl))
          · rw [if_neg hc13] at hm15
            cases hm15
            exact sT rfl (dN z153 rfl (oLd (cs := [.im 0 _, .im 2 _]) rfl tF194 rfl rfl)) <| sS (dN z153 rfl (oCa (xs := [.v true [.im 0 _, .im 2 _]]) (vs := [(false, [.im 0 _])]) (v := .v false [.im 0 _]) (L_impl_ValidFeature hx13) (.inl rfl) rfl kF228_194 rfl (ppC rfl pp0) rfl rfl pb0 rfl rfl rfl)) trivial (sT rfl (dN z153 rfl (oUn rfl rfl rfl)) <| sT rfl (dN z153 rfl (oMv rfl rfl)) <| sT rfl (dT z153 rfl rfl rfl (nF (Iff.rfl.2 hc12)) (oMv rfl rfl)) <| sT rfl (dT z153 rfl rfl rfl (nF (Iff.rfl.2 hc12)) (oBi rfl rfl rfl rfl)) <| sT rfl (dT z153 rfl rfl rfl (nF (Iff.rfl.2 hc12)) (oMv rfl rfl)) <| sT rfl (dF rfl rfl rfl (byF iDec hc13) rfl) <| sT rfl (dF rfl rfl rfl (byF iDec hc13) rfl) <| sT rfl (dF rfl rfl rfl (byF iDec hc13) rfl) <| sT rfl (dF rfl rfl rfl (byF iDec hc13) rfl) <| sT rfl (dF rfl rfl rfl (byF iDec hc13) rfl) <| sT rfl (dF rfl rfl rfl (byF iDec hc13) rfl) <| sT rfl (dF rfl rfl rfl (byF iDec hc13) rfl) <| sT rfl (dF rfl rfl rfl (byF iDec hc13) rfl) <| sT rfl (dF rfl rfl rfl (byF iDec hc13) rfl) <| sT rfl (dT z153 rfl rfl rfl (nF (Iff.rfl.2 hc12)) (oPkF rfl rfl (byF iDec hc13) rfl)) <| sT rfl (dN z153 rfl (oPkF rfl rfl (nF (Iff.rfl.2 hc12)) rfl)) <| sD (by kernel_rfl))
        · rw [if_neg hc12] at hm15
          cases hm15
          exact sT rfl (dN z153 rfl (oLd (cs := [.im 0 _, .im 2 _]) rfl tF194 rfl rfl)) <| sS (dN z153 rfl (oCa (xs := [.v true [.im 0 _, .im 2 _]]) (vs := [(false, [.im 0 _])]) (v := .v false [.im 0 _]) (L_impl_ValidFeature hx13) (.inl rfl) rfl kF228_194 rfl (ppC rfl pp0) rfl rfl pb0 rfl rfl rfl)) trivial (sT rfl (dN z153 rfl (oUn rfl rfl rfl)) <| sT rfl (dN z153 rfl (oMv rfl rfl)) <| sT rfl (dF rfl rfl rfl (nT (byF Iff.rfl hc12)) rfl) <| sT rfl (dF rfl rfl rfl (nT (byF Iff.rfl hc12)) rfl) <| sT rfl (dF rfl rfl rfl (nT (byF Iff.rfl hc12)) rfl) <| sT rfl (dU rfl rfl rfl rfl) <| sT rfl (dU rfl rfl rfl rfl) <| sT rfl (dU rfl rfl rfl rfl) <| sT rfl (dU rfl rfl rfl rfl) <| sT rfl (dU rfl rfl rfl rfl) <| sT rfl (dU rfl rfl rfl rfl) <| sT rfl (dU rfl rfl rfl rfl) <| sT rfl (dU rfl rfl rfl rfl) <| sT rfl (dU rfl rfl rfl rfl) <| sT rfl (dF rfl rfl rfl (nT (byF Iff.rfl hc12)) rfl) <| sT rfl (dN z153 rfl (oPkT rfl rfl (nT (byF Iff.rfl hc12)) rfl)) <| sD (by kernel_rfl))
      · refine Unw.seq ?_
        by_cases hc14 : t_29_m4 = true
        · rw [if_pos hc14] at h
          refine Go.condT rfl (Iff.rfl.2 hc14) ?_
          refine Go.seq ?_
          refine Go.r0 c153 rfl rfl (sq z153 (oAsI rfl rfl) <| nl) ?_
          refine Unw.seq ?_
          refine Go.ret (Unw.ret ?_)
          cases h
          exact ⟨rfl, (fin_of rfl rF153 rfl (by kernel_rfl))⟩
        · rw [if_neg hc14] at h
          refine Go.condF rfl (byF Iff.rfl hc14) ?_
          refine Go.skip ?_
          refine Unw.blk ?_
          refine Unw.seq ?_
          refine Go.r0 c153 rfl rfl (sq z153 (oBi rfl rfl rfl rfl) <| sq z153 (oMv rfl rfl) <| nl) ?_
          refine Unw.nil ?_
          cases h
          exact ⟨rfl, (by kernel_rfl)⟩
    · rw [if_neg hc11] at h
      refine Go.condF rfl (byF iDec hc11) ?_
      refine Go.exit ?_
      refine Unw.seqx ?_
      refine Unw.nil ?_
      cases h
      exact ⟨rfl, (by kernel_rfl)⟩
  · rintro ⟨e, st⟩ hp
    rcases o with u | r2
    · dsimp only at h
      obtain ⟨he, hst⟩ := hp
      obtain rfl : e = .exit 0 := he
      refine Unw.blkx ?_
      refine Unw.seq ?_
      refine Go.seq ?_
      refine Go.r1 c153 rfl rfl hst (sq z153 (oMv rfl rfl) <| sq z153 (oLnI rfl rfl uF73 rfl) <| sq z153 (oBi rfl rfl rfl rfl) <| sq z153 (oAsI rfl rfl) <| nl) ?_
      refine Unw.seq ?_
      refine Go.ret (Unw.ret ?_)
      cases h
      exact Fin_ret (fin_of rfl rF153 rfl (by kernel_rfl))
    · dsimp only at h
      obtain ⟨he, hfin⟩ := hp
      obtain rfl : e = .ret := he
      cases h
      exact Unw.ret (Fin_ret hfin)
theorem L_impl_matchesCode {targets_0 : (List S_Feature)} {stock_1 : (List S_Feature)} {budget_2 : Int} {r : Int} (h : impl_matchesCode targets_0 stock_1 budget_2 = some r) : FL Try.prog cfg 130 [.im 2 false [.row 2 (List.map e_S_Feature targets_0)], .im 2 false [.row 2 (List.map e_S_Feature stock_1)], .im 2 false [.sc (.int .i64 budget_2)]] = some ([(false, [.im 0 (.sc (.int .i64 r))])], []) := by
  unfold impl_matchesCode at h
  refine FL_goS (A := [(0, .v false [.im 2 (.row 2 (List.map e_S_Feature targets_0))]), (1, .v false [.im 2 (.row 2 (List.map e_S_Feature stock_1))]), (2, .v false [.im 2 (.sc (.int .i64 budget_2))])]) (B := [(0, none), (1, none), (2, none)]) (nt := 26) rfl rfl Try.func130 rfl rfl rfl rfl ?_
  refine Go.seq ?_
  refine Go.r0 c130 rfl rfl (sq z130 (oAsI rfl rfl) <| nl) ?_
  refine Unw.seq ?_
  refine Go.seq ?_
  refine Go.block ?_
  refine Go.seq ?_
  obtain ⟨x9, hx9, h⟩ := bs h
  obtain ⟨t_7_m1, hm5, h⟩ := bs h
  refine Go.rX c130 rfl rfl rfl (mk [(0, .v false [.im 2 (.row 2 (List.map e_S_Feature targets_0))]), (1, .v false [.im 2 (.row 2 (List.map e_S_Feature stock_1))]), (2, iv budget_2), (7, bv t_7_m1)] []) ?_ ?_
  · by_cases hc1 : x9 = true
    · rw [if_pos hc1] at hm5
      obtain ⟨x13, hx13, hm5⟩ := bs hm5
      cases hm5
      exact ⟨_, sq z130 (oMv rfl rfl) <| sq z130 (oCa (xs := [.v false [.im 2 _]]) (vs := [(false, [.im 0 _])]) (v := .v false [.im 0 _]) (L_impl_ValidFeatures hx9) (.inl rfl) rfl kF153_73 rfl (ppC rfl pp0) rfl rfl pb0 rfl rfl rfl) <| sq z130 (oUn rfl rfl rfl) <| sq z130 (oMv rfl rfl) <| sgT z130 rfl rfl (nF (Iff.rfl.2 hc1)) (oMv rfl rfl) <| sgT z130 rfl rfl (nF (Iff.rfl.2 hc1)) (oCa (xs := [.v false [.im 2 _]]) (vs := [(false, [.im 0 _])]) (v := .v false [.im 0 _]) (L_impl_ValidFeatures hx13) (.inl rfl) rfl kF153_73 rfl (ppC rfl pp0) rfl rfl pb0 rfl rfl rfl) <| sgT z130 rfl rfl (nF (Iff.rfl.2 hc1)) (oUn rfl rfl rfl) <| sq z130 (oPkF rfl rfl (nF (Iff.rfl.2 hc1)) rfl) <| sq z130 (oAsI rfl rfl) <| nl, (by kernel_rfl)⟩
    · rw [if_neg hc1] at hm5
      cases hm5
      exact ⟨_, sq z130 (oMv rfl rfl) <| sq z130 (oCa (xs := [.v false [.im 2 _]]) (vs := [(false, [.im 0 _])]) (v := .v false [.im 0 _]) (L_impl_ValidFeatures hx9) (.inl rfl) rfl kF153_73 rfl (ppC rfl pp0) rfl rfl pb0 rfl rfl rfl) <| sq z130 (oUn rfl rfl rfl) <| sq z130 (oMv rfl rfl) <| sgF rfl rfl (nT (byF Iff.rfl hc1)) rfl <| sgF rfl rfl (nT (byF Iff.rfl hc1)) rfl <| sgF rfl rfl (nT (byF Iff.rfl hc1)) rfl <| sq z130 (oPkT rfl rfl (nT (byF Iff.rfl hc1)) rfl) <| sq z130 (oAsI rfl rfl) <| nl, (by kernel_rfl)⟩
  · refine Unw.seq ?_
    by_cases hc2 : t_7_m1 = true
    · rw [if_pos hc2] at h
      refine Go.condT rfl (Iff.rfl.2 hc2) ?_
      refine Go.seq ?_
      refine Go.r0 c130 rfl rfl (sq z130 (oAsI rfl rfl) <| nl) ?_
      refine Unw.seq ?_
      refine Go.ret (Unw.ret ?_)
      cases h
      exact Fin_ret (fin_of rfl rF130 rfl (by kernel_rfl))
    · rw [if_neg hc2] at h
      refine Go.condF rfl (byF Iff.rfl hc2) ?_
      refine Go.seq ?_
      obtain ⟨x18, hx18, h⟩ := bs h
      refine Go.r0 c130 rfl rfl (sq z130 (oMv rfl rfl) <| sq z130 (oCa (xs := [.v false [.im 0 _], .v false [.im 0 _], .v false [.im 0 _]]) (vs := [(false, [.im 0 _])]) (v := .v false [.im 0 _]) (L_impl_within hx18) (.inl rfl) rfl kF92_2_2_2 rfl (ppC rfl (ppC rfl (ppC rfl pp0))) rfl rfl pb0 rfl rfl rfl) <| sq z130 (oUn rfl rfl rfl) <| sq z130 (oAsI rfl rfl) <| nl) ?_
      refine Unw.seq ?_
      by_cases hc3 : x18 = true
      · rw [if_pos hc3] at h
        refine Go.condF rfl (nF (Iff.rfl.2 hc3)) ?_
        refine Go.seq ?_
        refine Go.r0 c130 rfl rfl (sq z130 (oMv rfl rfl) <| sq z130 (oLnI rfl rfl uF73 rfl) <| sq z130 (oMv rfl rfl) <| sq z130 (oLnI rfl rfl uF73 rfl) <| sq z130 (oBi rfl rfl rfl rfl) <| sq z130 (oAsI rfl rfl) <| nl) ?_
        refine Unw.seq ?_
        by_cases hc4 : (targets_0.length : Int) > (stock_1.length : Int)
        · rw [if_pos hc4] at h
          refine Go.condT rfl (iDec.2 hc4) ?_
          refine Go.seq ?_
          refine Go.r0 c130 rfl rfl (sq z130 (oAsI rfl rfl) <| nl) ?_
          refine Unw.seq ?_
          refine Go.ret (Unw.ret ?_)
          cases h
          exact Fin_ret (fin_of rfl rF130 rfl (by kernel_rfl))
        · rw [if_neg hc4] at h
          refine Go.condF rfl (byF iDec hc4) ?_
          refine Go.skip ?_
          refine Unw.blk ?_
          refine Unw.seq ?_
          refine Go.seq ?_
          refine Go.r0 c130 rfl rfl (sq z130 (oAsI rfl rfl) <| nl) ?_
          refine Unw.seq ?_
          refine Go.ret (Unw.ret ?_)
          cases h
          exact Fin_ret (fin_of rfl rF130 rfl (by kernel_rfl))
      · rw [if_neg hc3] at h
        refine Go.condT rfl (nT (byF Iff.rfl hc3)) ?_
        refine Go.seq ?_
        refine Go.r0 c130 rfl rfl (sq z130 (oAsI rfl rfl) <| nl) ?_
        refine Unw.seq ?_
        refine Go.ret (Unw.ret ?_)
        cases h
        exact Fin_ret (fin_of rfl rF130 rfl (by kernel_rfl))
theorem L_slices_Index_int64_int64 {s_0 : (List Int)} {v_1 : Int} {r : Int} (h : slices_Index_int64_int64 s_0 v_1 = some r) : FL Try.prog cfg 230 [.im 2 false [.row 1 (List.map eI s_0)], .im 2 false [.sc (.int .i64 v_1)]] = some ([(false, [.im 0 (.sc (.int .i64 r))])], []) := by
  unfold slices_Index_int64_int64 at h
  refine FL_goS (A := [(0, .v false [.im 2 (.row 1 (List.map eI s_0))]), (1, .v false [.im 2 (.sc (.int .i64 v_1))])]) (B := [(0, none), (1, none)]) (nt := 19) rfl rfl Try.func230 rfl rfl rfl rfl ?_
  refine Go.seq ?_
  refine Go.r0 c230 rfl rfl (sq z230 (oAsI rfl rfl) <| nl) ?_
  refine Unw.seq ?_
  refine Go.seq ?_
  refine Go.seq ?_
  refine Go.r0 c230 rfl rfl (sq z230 (oMv rfl rfl) <| sq z230 (oLnI rfl rfl uF27 rfl) <| sq z230 (oMv rfl rfl) <| nl) ?_
  refine Unw.seq ?_
  refine Go.block ?_
  obtain ⟨o, hl, h⟩ := bs h
  refine Go.lp c230 rfl _ (fun (t_8_l2 : Int) => mk [(0, .v false [.im 2 (.row 1 (List.map eI s_0))]), (1, iv v_1), (7, iv (s_0.length : Int)), (8, iv t_8_l2)] []) (fun (o : (Unit ⊕ Int)) (p : Ex × St) => match o with | (.inl _) => p.1 = .exit 0 ∧ p.2.norm ([], []) = mk [] [] | (.inr r2) => p.1 = .ret ∧ fin Try.prog cfg 230 Try.f230 [.im 2 false [.row 1 (List.map eI s_0)], .im 2 false [.sc (.int .i64 v_1)]] p.2 = some ([(false, [.im 0 (.sc (.int .i64 r2))])], [])) hl (by kernel_rfl) ?_ ?_ ?_
  · intro o p hp e
    rcases o with u | r2 <;> exact nomatch (hp.1.symm.trans e)
  · rintro t_8_l2 o h
    unfold slices_Index_int64_int64_l2 at h
    refine Go.seq ?_
    refine Go.r0 c230 rfl rfl (sq z230 (oBi rfl rfl rfl rfl) <| nl) ?_
    refine Unw.seq ?_
    refine Go.seq ?_
    by_cases hc5 : t_8_l2 < (s_0.length : Int)
    · rw [if_pos hc5] at h
      refine Go.condT rfl (iDec.2 hc5) ?_
      refine Go.skip ?_
      refine Unw.seq ?_
      refine Go.seq ?_
      refine Go.block ?_
      refine Go.seq ?_
      refine Go.r0 c230 rfl rfl (sq z230 (oMv rfl rfl) <| sq z230 (oAsI rfl rfl) <| nl) ?_
      refine Unw.seq ?_
      refine Go.seq ?_
      obtain ⟨x14, hx14, h⟩ := bs h
      refine Go.r0 c230 rfl rfl (sq z230 (oMv rfl rfl) <| sq z230 (oMv rfl rfl) <| sq z230 (oMv rfl rfl) <| sq z230 (oIAI rfl hx14 sF27 rfl rfl) <| sq z230 (oLd (cs := [.im 2 _]) rfl tF2 rfl rfl) <| sq z230 (oBi rfl rfl rfl rfl) <| nl) ?_
      refine Unw.seq ?_
      by_cases hc6 : v_1 = x14
      · rw [if_pos hc6] at h
        refine Go.condT rfl (iEq.2 hc6) ?_
        refine Go.seq ?_
        refine Go.r0 c230 rfl rfl (sq z230 (oMv rfl rfl) <| sq z230 (oAsI rfl rfl) <| nl) ?_
        refine Unw.seq ?_
        refine Go.ret (Unw.ret ?_)
        cases h
        exact ⟨rfl, (fin_of rfl rF230 rfl (by kernel_rfl))⟩
      · rw [if_neg hc6] at h
        refine Go.condF rfl (byF iEq hc6) ?_
        refine Go.skip ?_
        refine Unw.blk ?_
        refine Unw.seq ?_
        refine Go.r0 c230 rfl rfl (sq z230 (oBi rfl rfl rfl rfl) <| sq z230 (oMv rfl rfl) <| nl) ?_
        refine Unw.nil ?_
        cases h
        exact ⟨rfl, (by kernel_rfl)⟩
    · rw [if_neg hc5] at h
      refine Go.condF rfl (byF iDec hc5) ?_
      refine Go.exit ?_
      refine Unw.seqx ?_
      refine Unw.nil ?_
      cases h
      exact ⟨rfl, (by kernel_rfl)⟩
  · rintro ⟨e, st⟩ hp
    rcases o with u | r2
    · dsimp only at h
      obtain ⟨he, hst⟩ := hp
      obtain rfl : e = .exit 0 := he
      refine Unw.blkx ?_
      refine Unw.seq ?_
      refine Go.seq ?_
      refine Go.r1 c230 rfl rfl hst (sq z230 (oAsI rfl rfl) <| nl) ?_
      refine Unw.seq ?_
      refine Go.ret (Unw.ret ?_)
      cases h
      exact Fin_ret (fin_of rfl rF230 rfl (by kernel_rfl))
    · dsimp only at h
      obtain ⟨he, hfin⟩ := hp
      obtain rfl : e = .ret := he
      cases h
      exact Unw.ret (Fin_ret hfin)
theorem L_slices_Contains_int64_int64 {s_0 : (List Int)} {v_1 : Int} {r : Bool} (h : slices_Contains_int64_int64 s_0 v_1 = some r) : FL Try.prog cfg 152 [.im 2 false [.row 1 (List.map eI s_0)], .im 2 false [.sc (.int .i64 v_1)]] = some ([(false, [.im 0 (.sc (.bool r))])], []) := by
  unfold slices_Contains_int64_int64 at h
  refine FL_goS (A := [(0, .v false [.im 2 (.row 1 (List.map eI s_0))]), (1, .v false [.im 2 (.sc (.int .i64 v_1))])]) (B := [(0, none), (1, none)]) (nt := 9) rfl rfl Try.func152 rfl rfl rfl rfl ?_
  refine Go.seq ?_
  refine Go.r0 c152 rfl rfl (sq z152 (oAsI rfl rfl) <| nl) ?_
  refine Unw.seq ?_
  refine Go.seq ?_
  obtain ⟨x7, hx7, h⟩ := bs h
  refine Go.r0 c152 rfl rfl (sq z152 (oMv rfl rfl) <| sq z152 (oMv rfl rfl) <| sq z152 (oCa (xs := [.v false [.im 2 _], .v false [.im 2 _]]) (vs := [(false, [.im 0 _])]) (v := .v false [.im 0 _]) (L_slices_Index_int64_int64 hx7) (.inl rfl) rfl kF230_27_2 rfl (ppC rfl (ppC rfl pp0)) rfl rfl pb0 rfl rfl rfl) <| sq z152 (oBi rfl rfl rfl rfl) <| sq z152 (oAsI rfl rfl) <| nl) ?_
  refine Unw.seq ?_
  refine Go.ret (Unw.ret ?_)
  cases h
  exact Fin_ret (fin_of rfl rF152 rfl (by kernel_rfl))
theorem L_impl_absolute {n_0 : Int} {r : Int} (h : impl_absolute n_0 = some r) : FL Try.prog cfg 208 [.im 2 false [.sc (.int .i64 n_0)]] = some ([(false, [.im 0 (.sc (.int .i64 r))])], []) := by
  unfold impl_absolute at h
  refine FL_goS (A := [(0, .v false [.im 2 (.sc (.int .i64 n_0))])]) (B := [(0, none)]) (nt := 7) rfl rfl Try.func208 rfl rfl rfl rfl ?_
  refine Go.seq ?_
  refine Go.r0 c208 rfl rfl (sq z208 (oAsI rfl rfl) <| nl) ?_
  refine Unw.seq ?_
  refine Go.seq ?_
  refine Go.r0 c208 rfl rfl (sq z208 (oMv rfl rfl) <| sq z208 (oMv rfl rfl) <| sq z208 (oUn rfl rfl rfl) <| sq z208 (oMax rfl rfl) <| sq z208 (oAsI rfl rfl) <| nl) ?_
  refine Unw.seq ?_
  refine Go.ret (Unw.ret ?_)
  cases h
  exact Fin_ret (fin_of rfl rF208 rfl (by kernel_rfl))
theorem L_impl_featureDistance {a_0 : S_Feature} {b_1 : S_Feature} {r : Int} (h : impl_featureDistance a_0 b_1 = some r) : FL Try.prog cfg 155 [.im 2 true [.sc (.string a_0.Id), .row 1 (List.map eI a_0.Values)], .im 2 true [.sc (.string b_1.Id), .row 1 (List.map eI b_1.Values)]] = some ([(false, [.im 0 (.sc (.int .i64 r))])], []) := by
  unfold impl_featureDistance at h
  refine FL_goS (A := [(0, .v true [.im 2 (.sc (.string a_0.Id)), .im 2 (.row 1 (List.map eI a_0.Values))]), (1, .v true [.im 2 (.sc (.string b_1.Id)), .im 2 (.row 1 (List.map eI b_1.Values))])]) (B := [(0, none), (1, none)]) (nt := 28) rfl rfl Try.func155 rfl rfl rfl rfl ?_
  refine Go.seq ?_
  refine Go.r0 c155 rfl rfl (sq z155 (oBx rfl tF194 rfl (tkI (tkI tk0))) <| sq z155 (oBx rfl tF194 rfl (tkI (tkI tk0))) <| sq z155 (oAsI rfl rfl) <| nl) ?_
  refine Unw.seq ?_
  refine Go.seq ?_
  refine Go.r0 c155 rfl rfl (sq z155 (oAsI rfl rfl) <| nl) ?_
  refine Unw.seq ?_
  refine Go.seq ?_
  refine Go.seq ?_
  refine Go.r0 c155 rfl rfl (sq z155 (oFA (r' := .mp 2 0 1) rfl fF194_1 rfl rfl) <| sq z155 (oLd (cs := [.im 2 _]) rfl tF27 rfl rfl) <| sq z155 (oLnI rfl rfl uF27 rfl) <| sq z155 (oMv rfl rfl) <| nl) ?_
  refine Unw.seq ?_
  refine Go.block ?_
  obtain ⟨o, hl, h⟩ := bs h
  refine Go.lp c155 rfl _ (fun (s : (Int × Int)) => match s with | (sum_5_l3, t_11_l3) => mk [(3, .v false [.mp 3 0 0]), (5, iv sum_5_l3), (9, .v false [.im 2 (.row 1 (List.map eI a_0.Values))]), (10, iv (a_0.Values.length : Int)), (11, iv t_11_l3)] [(3, some ⟨0, 0, false, true, false, true, [⟨.imm, 0, 0, .sc (.string b_1.Id)⟩, ⟨.imm, 0, 2, .row 1 (List.map eI b_1.Values)⟩]⟩)]) (fun (sum_5_e0_3 : Int) (p : Ex × St) => p.1 = .exit 0 ∧ p.2.norm ([5], []) = mk [(5, iv sum_5_e0_3)] []) hl (by kernel_rfl) ?_ ?_ ?_
  · intro o p hp e
    exact nomatch (hp.1.symm.trans e)
  · rintro ⟨sum_5_l3, t_11_l3⟩ o h
    unfold impl_featureDistance_l3 at h
    dsimp only at h
    refine Go.seq ?_
    refine Go.r0 c155 rfl rfl (sq z155 (oBi rfl rfl rfl rfl) <| nl) ?_
    refine Unw.seq ?_
    refine Go.seq ?_
    by_cases hc3 : t_11_l3 < (a_0.Values.length : Int)
    · rw [if_pos hc3] at h
      refine Go.condT rfl (iDec.2 hc3) ?_
      refine Go.skip ?_
      refine Unw.seq ?_
      refine Go.seq ?_
      refine Go.block ?_
      refine Go.seq ?_
      obtain ⟨x14, hx14, h⟩ := bs h
      refine Go.r0 c155 rfl rfl (sq z155 (oMv rfl rfl) <| sq z155 (oIAI rfl hx14 sF27 rfl rfl) <| sq z155 (oLd (cs := [.im 2 _]) rfl tF2 rfl rfl) <| sq z155 (oAsI rfl rfl) <| sq z155 (oAsI rfl rfl) <| nl) ?_
      refine Unw.seq ?_
      obtain ⟨x21, hx21, h⟩ := bs h
      obtain ⟨x24, hx24, h⟩ := bs h
      refine Go.r0 c155 rfl rfl (sq z155 (oMv rfl rfl) <| sq z155 (oMv rfl rfl) <| sq z155 (oFA (r' := .mp 3 0 1) rfl fF194_1 rfl rfl) <| sq z155 (oLd (cs := [.im 2 _]) rfl tF27 rfl rfl) <| sq z155 (oMv rfl rfl) <| sq z155 (oIAI rfl hx21 sF27 rfl rfl) <| sq z155 (oLd (cs := [.im 2 _]) rfl tF2 rfl rfl) <| sq z155 (oBi rfl rfl rfl rfl) <| sq z155 (oCa (xs := [.v false [.im 0 _]]) (vs := [(false, [.im 0 _])]) (v := .v false [.im 0 _]) (L_impl_absolute hx24) (.inl rfl) rfl kF208_2 rfl (ppC rfl pp0) rfl rfl pb0 rfl rfl rfl) <| sq z155 (oBi rfl rfl rfl rfl) <| sq z155 (oAsI rfl rfl) <| nl) ?_
      refine Unw.blk ?_
      refine Unw.seq ?_
      refine Go.r0 c155 rfl rfl (sq z155 (oBi rfl rfl rfl rfl) <| sq z155 (oMv rfl rfl) <| nl) ?_
      refine Unw.nil ?_
      cases h
      exact ⟨rfl, (by kernel_rfl)⟩
    · rw [if_neg hc3] at h
      refine Go.condF rfl (byF iDec hc3) ?_
      refine Go.exit ?_
      refine Unw.seqx ?_
      refine Unw.nil ?_
      cases h
      exact ⟨rfl, (by kernel_rfl)⟩
  · rintro ⟨e, st⟩ hp
    obtain ⟨sum_5_e0_3, rfl⟩ : ∃ y, y = o := ⟨o, rfl⟩
    obtain ⟨he, hst⟩ := hp
    obtain rfl : e = .exit 0 := he
    refine Unw.blkx ?_
    refine Unw.seq ?_
    refine Go.seq ?_
    refine Go.r1 c155 rfl rfl hst (sq z155 (oMv rfl rfl) <| sq z155 (oAsI rfl rfl) <| nl) ?_
    refine Unw.seq ?_
    refine Go.ret (Unw.ret ?_)
    cases h
    exact Fin_ret (fin_of rfl rF155 rfl (by kernel_rfl))
theorem L_impl_matchSearch_run_F {self : (S_matchSearch × (List Int) × Int) → Option (Bool × S_matchSearch)}  (ih : ∀ {s_0 : S_matchSearch} {matches_1 : (List Int)} {sum_2 : Int} {r : (Bool × S_matchSearch)}, self (s_0, matches_1, sum_2) = some r → FL Try.prog cfg 131 [.ptr true [(.imm, .row 2 (List.map e_S_Feature s_0.targets)), (.imm, .row 2 (List.map e_S_Feature s_0.stock)), (.imm, .sc (.int .i64 s_0.left)), (.imm, .sc (.bool s_0.found)), (.sh, .row 1 (List.map eI s_0.best)), (.imm, .sc (.int .i64 s_0.least))], .mv 1 (List.map eI matches_1), .im 2 false [.sc (.int .i64 sum_2)]] = some ([(false, [.im 0 (.sc (.bool r.1))])], [.ptr true [(.imm, .row 2 (List.map e_S_Feature r.2.targets)), (.imm, .row 2 (List.map e_S_Feature r.2.stock)), (.imm, .sc (.int .i64 r.2.left)), (.imm, .sc (.bool r.2.found)), (.sh, .row 1 (List.map eI r.2.best)), (.imm, .sc (.int .i64 r.2.least))]])) {s_0 : S_matchSearch} {matches_1 : (List Int)} {sum_2 : Int} {r : (Bool × S_matchSearch)} (h : impl_matchSearch_run_F self s_0 matches_1 sum_2 = some r) : FL Try.prog cfg 131 [.ptr true [(.imm, .row 2 (List.map e_S_Feature s_0.targets)), (.imm, .row 2 (List.map e_S_Feature s_0.stock)), (.imm, .sc (.int .i64 s_0.left)), (.imm, .sc (.bool s_0.found)), (.sh, .row 1 (List.map eI s_0.best)), (.imm, .sc (.int .i64 s_0.least))], .mv 1 (List.map eI matches_1), .im 2 false [.sc (.int .i64 sum_2)]] = some ([(false, [.im 0 (.sc (.bool r.1))])], [.ptr true [(.imm, .row 2 (List.map e_S_Feature r.2.targets)), (.imm, .row 2 (List.map e_S_Feature r.2.stock)), (.imm, .sc (.int .i64 r.2.left)), (.imm, .sc (.bool r.2.found)), (.sh, .row 1 (List.map eI r.2.best)), (.imm, .sc (.int .i64 r.2.least))]]) := by
  unfold impl_matchSearch_run_F at h
  refine FL_goS (A := [(0, .v false [.mp 0 0 0]), (1, .v false [.own 1 0 0]), (2, .v false [.im 2 (.sc (.int .i64 sum_2))])]) (B := [(0, some ⟨0, 0, true, true, false, true, [⟨.imm, 0, 1, .row 2 (List.map e_S_Feature s_0.targets)⟩, ⟨.imm, 0, 1, .row 2 (List.map e_S_Feature s_0.stock)⟩, ⟨.imm, 0, 0, .sc (.int .i64 s_0.left)⟩, ⟨.imm, 0, 0, .sc (.bool s_0.found)⟩, ⟨.sh, 0, 0, .row 1 (List.map eI s_0.best)⟩, ⟨.imm, 0, 0, .sc (.int .i64 s_0.least)⟩]⟩), (1, some ⟨0, 0, false, false, false, false, [⟨.sh, 0, 0, .row 1 (List.map eI matches_1)⟩]⟩), (2, none)]) (nt := 87) rfl rfl Try.func131 rfl rfl rfl rfl ?_
  refine Go.seq ?_
  refine Go.r0 c131 rfl rfl (sq z131 (oAsI rfl rfl) <| nl) ?_
  refine Unw.seq ?_
  refine Go.seq ?_
  refine Go.seq ?_
  refine Go.r0 c131 rfl rfl (sq z131 (oMv rfl rfl) <| sq z131 (oLnO rfl rfl uF27 rfl rfl rfl (fun e => nomatch e)) <| sq z131 (oMv rfl rfl) <| sq z131 (oNl rfl rfl rfl) <| sq z131 (oFA (r' := .mp 0 0 0) rfl fF199_0 rfl rfl) <| sq z131 (oLd (cs := [.im 1 _]) rfl tF73 rfl rfl) <| sq z131 (oLnI rfl rfl uF73 rfl) <| sq z131 (oBi rfl rfl rfl rfl) <| nl) ?_
  refine Unw.seq ?_
  by_cases hc1 : (matches_1.length : Int) = (s_0.targets.length : Int)
  · rw [if_pos hc1] at h
    refine Go.condT rfl (iEq.2 hc1) ?_
    refine Go.seq ?_
    refine Go.r0 c131 rfl rfl (sq z131 (oMv rfl rfl) <| sq z131 (oMv rfl rfl) <| sq z131 (oMv rfl rfl) <| sq z131 (oMv rfl rfl) <| sq z131 (oMv rfl rfl) <| sq z131 (oNl rfl rfl rfl) <| sq z131 (oFA (r' := .mp 0 0 3) rfl fF199_3 rfl rfl) <| sq z131 (oSt tF4 rfl rfl rfl (tkI tk0) rfl rfl rfl) <| sq z131 (oNl rfl rfl rfl) <| sq z131 (oFA (r' := .mp 0 0 4) rfl fF199_4 rfl rfl) <| sq z131 (oSt tF27 rfl rfl rfl (tkO rfl rfl tk0) rfl rfl rfl) <| sq z131 (oNl rfl rfl rfl) <| sq z131 (oFA (r' := .mp 0 0 5) rfl fF199_5 rfl rfl) <| sq z131 (oSt tF2 rfl rfl rfl (tkI tk0) rfl rfl rfl) <| nl) ?_
    refine Unw.seq ?_
    refine Go.seq ?_
    refine Go.r1 c131 rfl rfl (st1 := mk [] [(0, some ⟨0, 0, true, true, false, true, [⟨.imm, 0, 1, .row 2 (List.map e_S_Feature s_0.targets)⟩, ⟨.imm, 0, 1, .row 2 (List.map e_S_Feature s_0.stock)⟩, ⟨.imm, 0, 0, .sc (.int .i64 s_0.left)⟩, ⟨.imm, 0, 0, .sc (.bool true)⟩, ⟨.sh, 0, 0, .row 1 (List.map eI matches_1)⟩, ⟨.imm, 0, 0, .sc (.int .i64 sum_2)⟩]⟩)]) (by kernel_rfl) (sq z131 (oAsI rfl rfl) <| nl) ?_
    refine Unw.seq ?_
    refine Go.ret (Unw.ret ?_)
    cases h
    exact Fin_ret (fin_of rfl rF131 rfl (by kernel_rfl))
  · rw [if_neg hc1] at h
    refine Go.condF rfl (byF iEq hc1) ?_
    refine Go.skip ?_
    refine Unw.seq ?_
    refine Go.seq ?_
    refine Go.seq ?_
    refine Go.r0 c131 rfl rfl (sq z131 (oMv rfl rfl) <| sq z131 (oNl rfl rfl rfl) <| sq z131 (oFA (r' := .mp 0 0 1) rfl fF199_1 rfl rfl) <| sq z131 (oLd (cs := [.im 1 _]) rfl tF73 rfl rfl) <| sq z131 (oLnI rfl rfl uF73 rfl) <| sq z131 (oMv rfl rfl) <| nl) ?_
    refine Unw.seq ?_
    refine Go.block ?_
    obtain ⟨o, hl, h⟩ := bs h
    refine Go.lp c131 rfl _ (fun (s : (Int × (List S_Feature) × (List S_Feature) × Int × Bool × (List Int) × Int)) => match s with | (t_34_l5, s_o0_0_l5, s_o0_1_l5, s_o0_2_l5, s_o0_3_l5, s_o0_4_l5, s_o0_5_l5) => mk [(0, .v false [.mp 0 0 0]), (1, .v false [.own 1 0 0]), (2, iv sum_2), (32, .v false [.im 1 (.row 2 (List.map e_S_Feature s_0.stock))]), (33, iv (s_0.stock.length : Int)), (34, iv t_34_l5)] [(0, some ⟨0, 0, true, true, false, true, [⟨.imm, 0, 1, .row 2 (List.map e_S_Feature s_o0_0_l5)⟩, ⟨.imm, 0, 1, .row 2 (List.map e_S_Feature s_o0_1_l5)⟩, ⟨.imm, 0, 0, .sc (.int .i64 s_o0_2_l5)⟩, ⟨.imm, 0, 0, .sc (.bool s_o0_3_l5)⟩, ⟨.sh, 0, 0, .row 1 (List.map eI s_o0_4_l5)⟩, ⟨.imm, 0, 0, .sc (.int .i64 s_o0_5_l5)⟩]⟩), (1, some ⟨0, 0, false, false, false, false, [⟨.sh, 0, 0, .row 1 (List.map eI matches_1)⟩]⟩)]) (fun (o : (((List S_Feature) × (List S_Feature) × Int × Bool × (List Int) × Int) ⊕ (Bool × S_matchSearch))) (p : Ex × St) => match o with | (.inl (s_o0_0_e0_5, s_o0_1_e0_5, s_o0_2_e0_5, s_o0_3_e0_5, s_o0_4_e0_5, s_o0_5_e0_5)) => p.1 = .exit 0 ∧ p.2.norm ([], [0]) = mk [] [(0, some ⟨0, 0, true, true, false, true, [⟨.imm, 0, 1, .row 2 (List.map e_S_Feature s_o0_0_e0_5)⟩, ⟨.imm, 0, 1, .row 2 (List.map e_S_Feature s_o0_1_e0_5)⟩, ⟨.imm, 0, 0, .sc (.int .i64 s_o0_2_e0_5)⟩, ⟨.imm, 0, 0, .sc (.bool s_o0_3_e0_5)⟩, ⟨.sh, 0, 0, .row 1 (List.map eI s_o0_4_e0_5)⟩, ⟨.imm, 0, 0, .sc (.int .i64 s_o0_5_e0_5)⟩]⟩)] | (.inr r2) => p.1 = .ret ∧ fin Try.prog cfg 131 Try.f131 [.ptr true [(.imm, .row 2 (List.map e_S_Feature s_0.targets)), (.imm, .row 2 (List.map e_S_Feature s_0.stock)), (.imm, .sc (.int .i64 s_0.left)), (.imm, .sc (.bool s_0.found)), (.sh, .row 1 (List.map eI s_0.best)), (.imm, .sc (.int .i64 s_0.least))], .mv 1 (List.map eI matches_1), .im 2 false [.sc (.int .i64 sum_2)]] p.2 = some ([(false, [.im 0 (.sc (.bool r2.1))])], [.ptr true [(.imm, .row 2 (List.map e_S_Feature r2.2.targets)), (.imm, .row 2 (List.map e_S_Feature r2.2.stock)), (.imm, .sc (.int .i64 r2.2.left)), (.imm, .sc (.bool r2.2.found)), (.sh, .row 1 (List.map eI r2.2.best)), (.imm, .sc (.int .i64 r2.2.least))]])) hl (by kernel_rfl) ?_ ?_ ?_
    · intro o p hp e
      rcases o with ⟨s_o0_0_e0_5, s_o0_1_e0_5, s_o0_2_e0_5, s_o0_3_e0_5, s_o0_4_e0_5, s_o0_5_e0_5⟩ | r2 <;> exact nomatch (hp.1.symm.trans e)
    · rintro ⟨t_34_l5, s_o0_0_l5, s_o0_1_l5, s_o0_2_l5, s_o0_3_l5, s_o0_4_l5, s_o0_5_l5⟩ o h
      unfold impl_matchSearch_run_l5 at h
      dsimp only at h
      refine Go.seq ?_
      refine Go.r0 c131 rfl rfl (sq z131 (oBi rfl rfl rfl rfl) <| nl) ?_
      refine Unw.seq ?_
      refine Go.seq ?_
      by_cases hc14 : t_34_l5 < (s_0.stock.length : Int)
      · rw [if_pos hc14] at h
        refine Go.condT rfl (iDec.2 hc14) ?_
        refine Go.skip ?_
        refine Unw.seq ?_
        refine Go.seq ?_
        refine Go.join (fun st => ∃ s_o0_0_r15, ∃ s_o0_1_r15, ∃ s_o0_2_r15, ∃ s_o0_3_r15, ∃ s_o0_4_r15, ∃ s_o0_5_r15, impl_matchSearch_run_k15 self t_34_l5 s_o0_0_r15 s_o0_1_r15 s_o0_2_r15 s_o0_3_r15 s_o0_4_r15 s_o0_5_r15 = some o ∧ st.norm ([0, 1, 2, 32, 33, 34], [0, 1]) = mk [(0, .v false [.mp 0 0 0]), (1, .v false [.own 1 0 0]), (2, iv sum_2), (32, .v false [.im 1 (.row 2 (List.map e_S_Feature s_0.stock))]), (33, iv (s_0.stock.length : Int)), (34, iv t_34_l5)] [(0, some ⟨0, 0, true, true, false, true, [⟨.imm, 0, 1, .row 2 (List.map e_S_Feature s_o0_0_r15)⟩, ⟨.imm, 0, 1, .row 2 (List.map e_S_Feature s_o0_1_r15)⟩, ⟨.imm, 0, 0, .sc (.int .i64 s_o0_2_r15)⟩, ⟨.imm, 0, 0, .sc (.bool s_o0_3_r15)⟩, ⟨.sh, 0, 0, .row 1 (List.map eI s_o0_4_r15)⟩, ⟨.imm, 0, 0, .sc (.int .i64 s_o0_5_r15)⟩]⟩), (1, some ⟨0, 0, false, false, false, false, [⟨.sh, 0, 0, .row 1 (List.map eI matches_1)⟩]⟩)]) ?_ ?_
        · rintro st ⟨s_o0_0_r15, s_o0_1_r15, s_o0_2_r15, s_o0_3_r15, s_o0_4_r15, s_o0_5_r15, h, hst⟩
          unfold impl_matchSearch_run_k15 at h
          refine Unw.seq ?_
          refine Go.r1 c131 rfl rfl hst (sq z131 (oBi rfl rfl rfl rfl) <| sq z131 (oMv rfl rfl) <| nl) ?_
          refine Unw.nil ?_
          cases h
          exact ⟨rfl, (by kernel_rfl)⟩
        · intro K20
          refine Go.block ?_
          refine Go.seq ?_
          obtain ⟨x37, hx37, h⟩ := bs h
          refine Go.r0 c131 rfl rfl (sq z131 (oMv rfl rfl) <| sq z131 (oIAI rfl hx37 sF73 rfl rfl) <| sq z131 (oLd (cs := [.im 1 _, .im 1 _]) rfl tF194 rfl rfl) <| sq z131 (oAl rfl tF194 (tkI (tkN tk0))) <| sq z131 (oAsI rfl rfl) <| sq z131 (oSt tF194 rfl rfl rfl (tkI (tkI tk0)) rfl rfl rfl) <| nl) ?_
          refine Unw.seq ?_
          refine Go.seq ?_
          refine Go.seq ?_
          obtain ⟨x41, hx41, h⟩ := bs h
          refine Go.r1 c131 rfl rfl (st1 := mk [(0, .v false [.mp 0 0 0]), (1, .v false [.own 1 0 0]), (2, iv sum_2), (7, iv t_34_l5), (8, .v false [.mp 8 0 0]), (32, .v false [.im 1 (.row 2 (List.map e_S_Feature s_0.stock))]), (33, iv (s_0.stock.length : Int)), (34, iv t_34_l5)] [(0, some ⟨0, 0, true, true, false, true, [⟨.imm, 0, 1, .row 2 (List.map e_S_Feature s_o0_0_l5)⟩, ⟨.imm, 0, 1, .row 2 (List.map e_S_Feature s_o0_1_l5)⟩, ⟨.imm, 0, 0, .sc (.int .i64 s_o0_2_l5)⟩, ⟨.imm, 0, 0, .sc (.bool s_o0_3_l5)⟩, ⟨.sh, 0, 0, .row 1 (List.map eI s_o0_4_l5)⟩, ⟨.imm, 0, 0, .sc (.int .i64 s_o0_5_l5)⟩]⟩), (1, some ⟨0, 0, false, false, false, false, [⟨.sh, 0, 0, .row 1 (List.map eI matches_1)⟩]⟩), (8, some ⟨0, 0, false, true, false, true, [⟨.imm, 0, 0, .sc (.string x37.Id)⟩, ⟨.imm, 0, 1, .row 1 (List.map eI x37.Values)⟩]⟩)]) (by kernel_rfl) (sq z131 (oMv rfl rfl) <| sq z131 (oMv rfl rfl) <| sq z131 (oCa (xs := [.v false [.own 1 0 0], .v false [.im 0 _]]) (vs := [(false, [.im 0 _])]) (v := .v false [.im 0 _]) (L_slices_Contains_int64_int64 hx41) (.inl rfl) rfl kF152_27_2 rfl (ppC rfl (ppC rfl pp0)) rfl rfl pb0 rfl rfl rfl) <| nl) ?_
          refine Unw.seq ?_
          by_cases hc21 : x41 = true
          · rw [if_pos hc21] at h
            refine Go.condT rfl (Iff.rfl.2 hc21) ?_
            refine Go.exit ?_
            refine Unw.seqx ?_
            refine Unw.blkx ?_
            exact K20 _ ⟨s_o0_0_l5, s_o0_1_l5, s_o0_2_l5, s_o0_3_l5, s_o0_4_l5, s_o0_5_l5, h, (by kernel_rfl)⟩
          · rw [if_neg hc21] at h
            refine Go.condF rfl (byF Iff.rfl hc21) ?_
            refine Go.skip ?_
            refine Unw.seq ?_
            refine Go.seq ?_
            obtain ⟨x49, hx49, h⟩ := bs h
            obtain ⟨x52, hx52, h⟩ := bs h
            refine Go.dr c131 rfl rfl rfl rfl (mk [(0, .v false [.mp 0 0 0]), (1, .v false [.own 1 0 0]), (2, iv sum_2), (7, iv t_34_l5), (9, iv (w64 (sum_2 + x52))), (32, .v false [.im 1 (.row 2 (List.map e_S_Feature s_0.stock))]), (33, iv (s_0.stock.length : Int)), (34, iv t_34_l5)] [(0, some ⟨0, 0, true, true, false, true, [⟨.imm, 0, 1, .row 2 (List.map e_S_Feature s_o0_0_l5)⟩, ⟨.imm, 0, 1, .row 2 (List.map e_S_Feature s_o0_1_l5)⟩, ⟨.imm, 0, 0, .sc (.int .i64 s_o0_2_l5)⟩, ⟨.imm, 0, 0, .sc (.bool s_o0_3_l5)⟩, ⟨.sh, 0, 0, .row 1 (List.map eI s_o0_4_l5)⟩, ⟨.imm, 0, 0, .sc (.int .i64 s_o0_5_l5)⟩]⟩), (1, some ⟨0, 0, false, false, false, false, [⟨.sh, 0, 0, .row 1 (List.map eI matches_1)⟩]⟩)]) (sT rfl (dN z131 rfl (oMv rfl rfl)) <| sT rfl (dN z131 rfl (oMv rfl rfl)) <| sT rfl (dN z131 rfl (oNl rfl rfl rfl)) <| sT rfl (dN z131 rfl (oFA (r' := .mp 0 0 0) rfl fF199_0 rfl rfl)) <| sT rfl (dN z131 rfl (oLd (cs := [.im 1 _]) rfl tF73 rfl rfl)) <| sT rfl (dN z131 rfl (oMv rfl rfl)) <| sT rfl (dN z131 rfl (oLnO rfl rfl uF27 rfl rfl rfl (fun e => nomatch e))) <| sT rfl (dN z131 rfl (oIAI rfl hx49 sF73 rfl rfl)) <| sT rfl (dN z131 rfl (oLd (cs := [.im 1 _, .im 1 _]) rfl tF194 rfl rfl)) <| sT rfl (dN z131 rfl (oLd (cs := [.im 0 _, .im 1 _]) rfl tF194 rfl rfl)) <| sS (dN z131 rfl (oCa (xs := [.v true [.im 1 _, .im 1 _], .v true [.im 0 _, .im 1 _]]) (vs := [(false, [.im 0 _])]) (v := .v false [.im 0 _]) (L_impl_featureDistance hx52) (.inl rfl) rfl kF155_194_194 rfl (ppC rfl (ppC rfl pp0)) rfl rfl pb0 rfl rfl rfl)) trivial (sT rfl (dN z131 rfl (oBi rfl rfl rfl rfl)) <| sS (dN z131 rfl (oAsI rfl rfl)) trivial (sD (by kernel_rfl)))) ?_
            refine Unw.seq ?_
            refine Go.seq ?_
            refine Go.seq ?_
            refine Go.rX c131 rfl rfl rfl (mk [(0, .v false [.mp 0 0 0]), (1, .v false [.own 1 0 0]), (2, iv sum_2), (7, iv t_34_l5), (9, iv (w64 (sum_2 + x52))), (32, .v false [.im 1 (.row 2 (List.map e_S_Feature s_0.stock))]), (33, iv (s_0.stock.length : Int)), (34, iv t_34_l5), (65, bv (s_o0_3_l5 && (decide ((w64 (sum_2 + x52)) ≥ s_o0_5_l5))))] [(0, some ⟨0, 0, true, true, false, true, [⟨.imm, 0, 1, .row 2 (List.map e_S_Feature s_o0_0_l5)⟩, ⟨.imm, 0, 1, .row 2 (List.map e_S_Feature s_o0_1_l5)⟩, ⟨.imm, 0, 0, .sc (.int .i64 s_o0_2_l5)⟩, ⟨.imm, 0, 0, .sc (.bool s_o0_3_l5)⟩, ⟨.sh, 0, 0, .row 1 (List.map eI s_o0_4_l5)⟩, ⟨.imm, 0, 0, .sc (.int .i64 s_o0_5_l5)⟩]⟩), (1, some ⟨0, 0, false, false, false, false, [⟨.sh, 0, 0, .row 1 (List.map eI matches_1)⟩]⟩)]) ?_ ?_
            · by_cases hc22 : s_o0_3_l5 = true
              · exact ⟨_, sq z131 (oMv rfl rfl) <| sq z131 (oNl rfl rfl rfl) <| sq z131 (oFA (r' := .mp 0 0 3) rfl fF199_3 rfl rfl) <| sq z131 (oLd (cs := [.im 0 _]) rfl tF4 rfl rfl) <| sq z131 (oMv rfl rfl) <| sgT z131 rfl rfl (Iff.rfl.2 hc22) (oMv rfl rfl) <| sgT z131 rfl rfl (Iff.rfl.2 hc22) (oMv rfl rfl) <| sgT z131 rfl rfl (Iff.rfl.2 hc22) (oNl rfl rfl rfl) <| sgT z131 rfl rfl (Iff.rfl.2 hc22) (oFA (r' := .mp 0 0 5) rfl fF199_5 rfl rfl) <| sgT z131 rfl rfl (Iff.rfl.2 hc22) (oLd (cs := [.im 0 _]) rfl tF2 rfl rfl) <| sgT z131 rfl rfl (Iff.rfl.2 hc22) (oBi rfl rfl rfl rfl) <| sq z131 (oPkT rfl rfl (Iff.rfl.2 hc22) rfl) <| nl, (Eq.trans (b := (fun t_65_m9 : Bool => mk [(0, .v false [.mp 0 0 0]), (1, .v false [.own 1 0 0]), (2, iv sum_2), (7, iv t_34_l5), (9, iv (w64 (sum_2 + x52))), (32, .v false [.im 1 (.row 2 (List.map e_S_Feature s_0.stock))]), (33, iv (s_0.stock.length : Int)), (34, iv t_34_l5), (65, bv t_65_m9)] [(0, some ⟨0, 0, true, true, false, true, [⟨.imm, 0, 1, .row 2 (List.map e_S_Feature s_o0_0_l5)⟩, ⟨.imm, 0, 1, .row 2 (List.map e_S_Feature s_o0_1_l5)⟩, ⟨.imm, 0, 0, .sc (.int .i64 s_o0_2_l5)⟩, ⟨.imm, 0, 0, .sc (.bool s_o0_3_l5)⟩, ⟨.sh, 0, 0, .row 1 (List.map eI s_o0_4_l5)⟩, ⟨.imm, 0, 0, .sc (.int .i64 s_o0_5_l5)⟩]⟩), (1, some ⟨0, 0, false, false, false, false, [⟨.sh, 0, 0, .row 1 (List.map eI matches_1)⟩]⟩)]) (decide ((w64 (sum_2 + x52)) ≥ s_o0_5_l5))) (by kernel_rfl) (congrArg (fun t_65_m9 : Bool => mk [(0, .v false [.mp 0 0 0]), (1, .v false [.own 1 0 0]), (2, iv sum_2), (7, iv t_34_l5), (9, iv (w64 (sum_2 + x52))), (32, .v false [.im 1 (.row 2 (List.map e_S_Feature s_0.stock))]), (33, iv (s_0.stock.length : Int)), (34, iv t_34_l5), (65, bv t_65_m9)] [(0, some ⟨0, 0, true, true, false, true, [⟨.imm, 0, 1, .row 2 (List.map e_S_Feature s_o0_0_l5)⟩, ⟨.imm, 0, 1, .row 2 (List.map e_S_Feature s_o0_1_l5)⟩, ⟨.imm, 0, 0, .sc (.int .i64 s_o0_2_l5)⟩, ⟨.imm, 0, 0, .sc (.bool s_o0_3_l5)⟩, ⟨.sh, 0, 0, .row 1 (List.map eI s_o0_4_l5)⟩, ⟨.imm, 0, 0, .sc (.int .i64 s_o0_5_l5)⟩]⟩), (1, some ⟨0, 0, false, false, false, false, [⟨.sh, 0, 0, .row 1 (List.map eI matches_1)⟩]⟩)]) (by first | rfl | (simp [(Iff.rfl.2 hc22)]; done) | (simp [(Iff.rfl.2 hc22)]; omega))))⟩
              · exact ⟨_, sq z131 (oMv rfl rfl) <| sq z131 (oNl rfl rfl rfl) <| sq z131 (oFA (r' := .mp 0 0 3) rfl fF199_3 rfl rfl) <| sq z131 (oLd (cs := [.im 0 _]) rfl tF4 rfl rfl) <| sq z131 (oMv rfl rfl) <| sgF rfl rfl (byF Iff.rfl hc22) rfl <| sgF rfl rfl (byF Iff.rfl hc22) rfl <| sgF rfl rfl (byF Iff.rfl hc22) rfl <| sgF rfl rfl (byF Iff.rfl hc22) rfl <| sgF rfl rfl (byF Iff.rfl hc22) rfl <| sgF rfl rfl (byF Iff.rfl hc22) rfl <| sq z131 (oPkF rfl rfl (byF Iff.rfl hc22) rfl) <| nl, (Eq.trans (b := (fun t_65_m9 : Bool => mk [(0, .v false [.mp 0 0 0]), (1, .v false [.own 1 0 0]), (2, iv sum_2), (7, iv t_34_l5), (9, iv (w64 (sum_2 + x52))), (32, .v false [.im 1 (.row 2 (List.map e_S_Feature s_0.stock))]), (33, iv (s_0.stock.length : Int)), (34, iv t_34_l5), (65, bv t_65_m9)] [(0, some ⟨0, 0, true, true, false, true, [⟨.imm, 0, 1, .row 2 (List.map e_S_Feature s_o0_0_l5)⟩, ⟨.imm, 0, 1, .row 2 (List.map e_S_Feature s_o0_1_l5)⟩, ⟨.imm, 0, 0, .sc (.int .i64 s_o0_2_l5)⟩, ⟨.imm, 0, 0, .sc (.bool s_o0_3_l5)⟩, ⟨.sh, 0, 0, .row 1 (List.map eI s_o0_4_l5)⟩, ⟨.imm, 0, 0, .sc (.int .i64 s_o0_5_l5)⟩]⟩), (1, some ⟨0, 0, false, false, false, false, [⟨.sh, 0, 0, .row 1 (List.map eI matches_1)⟩]⟩)]) false) (by kernel_rfl) (congrArg (fun t_65_m9 : Bool => mk [(0, .v false [.mp 0 0 0]), (1, .v false [.own 1 0 0]), (2, iv sum_2), (7, iv t_34_l5), (9, iv (w64 (sum_2 + x52))), (32, .v false [.im 1 (.row 2 (List.map e_S_Feature s_0.stock))]), (33, iv (s_0.stock.length : Int)), (34, iv t_34_l5), (65, bv t_65_m9)] [(0, some ⟨0, 0, true, true, false, true, [⟨.imm, 0, 1, .row 2 (List.map e_S_Feature s_o0_0_l5)⟩, ⟨.imm, 0, 1, .row 2 (List.map e_S_Feature s_o0_1_l5)⟩, ⟨.imm, 0, 0, .sc (.int .i64 s_o0_2_l5)⟩, ⟨.imm, 0, 0, .sc (.bool s_o0_3_l5)⟩, ⟨.sh, 0, 0, .row 1 (List.map eI s_o0_4_l5)⟩, ⟨.imm, 0, 0, .sc (.int .i64 s_o0_5_l5)⟩]⟩), (1, some ⟨0, 0, false, false, false, false, [⟨.sh, 0, 0, .row 1 (List.map eI matches_1)⟩]⟩)]) (by first | rfl | (simp [(byF Iff.rfl hc22)]; done) | (simp [(byF Iff.rfl hc22)]; omega))))⟩
            · refine Unw.seq ?_
              by_cases hc23 : (s_o0_3_l5 = true ∧ (w64 (sum_2 + x52)) ≥ s_o0_5_l5)
              · rw [if_pos hc23] at h
                refine Go.condT rfl ((iAnd Iff.rfl iDec).2 hc23) ?_
                refine Go.exit ?_
                refine Unw.seqx ?_
                refine Unw.blkx ?_
                exact K20 _ ⟨s_o0_0_l5, s_o0_1_l5, s_o0_2_l5, s_o0_3_l5, s_o0_4_l5, s_o0_5_l5, h, (by kernel_rfl)⟩
              · rw [if_neg hc23] at h
                refine Go.condF rfl (byF (iAnd Iff.rfl iDec) hc23) ?_
                refine Go.skip ?_
                refine Unw.seq ?_
                refine Go.seq ?_
                refine Go.seq ?_
                refine Go.r0 c131 rfl rfl (sq z131 (oMv rfl rfl) <| sq z131 (oNl rfl rfl rfl) <| sq z131 (oFA (r' := .mp 0 0 2) rfl fF199_2 rfl rfl) <| sq z131 (oLd (cs := [.im 0 _]) rfl tF2 rfl rfl) <| sq z131 (oBi rfl rfl rfl rfl) <| nl) ?_
                refine Unw.seq ?_
                by_cases hc24 : s_o0_2_l5 = 0
                · rw [if_pos hc24] at h
                  refine Go.condT rfl (iEq.2 hc24) ?_
                  refine Go.seq ?_
                  refine Go.r0 c131 rfl rfl (sq z131 (oAsI rfl rfl) <| nl) ?_
                  refine Unw.seq ?_
                  refine Go.ret (Unw.ret ?_)
                  cases h
                  exact ⟨rfl, (fin_of rfl rF131 rfl (by kernel_rfl))⟩
                · rw [if_neg hc24] at h
                  refine Go.condF rfl (byF iEq hc24) ?_
                  refine Go.skip ?_
                  refine Unw.seq ?_
                  refine Go.seq ?_
                  refine Go.r0 c131 rfl rfl (sq z131 (oMv rfl rfl) <| sq z131 (oNl rfl rfl rfl) <| sq z131 (oFA (r' := .mp 0 0 2) rfl fF199_2 rfl rfl) <| sq z131 (oLd (cs := [.im 0 _]) rfl tF2 rfl rfl) <| sq z131 (oBi rfl rfl rfl rfl) <| sq z131 (oNl rfl rfl rfl) <| sq z131 (oFA (r' := .mp 0 0 2) rfl fF199_2 rfl rfl) <| sq z131 (oSt tF2 rfl rfl rfl (tkI tk0) rfl rfl rfl) <| nl) ?_
                  refine Unw.seq ?_
                  refine Go.seq ?_
                  obtain ⟨x80, hx80, h⟩ := bs h
                  obtain ⟨x83, hx83, h⟩ := bs h
                  obtain ⟨x85, hx85, h⟩ := bs h
                  refine Go.r1 c131 rfl rfl (st1 := mk [(0, .v false [.mp 0 0 0]), (1, .v false [.own 1 0 0]), (2, iv sum_2), (7, iv t_34_l5), (9, iv (w64 (sum_2 + x52))), (32, .v false [.im 1 (.row 2 (List.map e_S_Feature s_0.stock))]), (33, iv (s_0.stock.length : Int)), (34, iv t_34_l5)] [(0, some ⟨0, 0, true, true, false, true, [⟨.imm, 0, 1, .row 2 (List.map e_S_Feature s_o0_0_l5)⟩, ⟨.imm, 0, 1, .row 2 (List.map e_S_Feature s_o0_1_l5)⟩, ⟨.imm, 0, 0, .sc (.int .i64 (w64 (s_o0_2_l5 - 1)))⟩, ⟨.imm, 0, 0, .sc (.bool s_o0_3_l5)⟩, ⟨.sh, 0, 0, .row 1 (List.map eI s_o0_4_l5)⟩, ⟨.imm, 0, 0, .sc (.int .i64 s_o0_5_l5)⟩]⟩), (1, some ⟨0, 0, false, false, false, false, [⟨.sh, 0, 0, .row 1 (List.map eI matches_1)⟩]⟩)]) (by kernel_rfl) (sq z131 (oMv rfl rfl) <| sq z131 (oMv rfl rfl) <| sq z131 (oCr (xs := [.v false [.own 1 0 0]]) (vs := [(false, [.own 80 0 0])]) (v := .v false [.own 80 0 0]) (c := ⟨.sh, 0, _⟩) (cs := []) (FL_cloneN (en := eI) (L := matches_1) rfl hx80 (fun _ => rfl)) (.inl rfl) rfl kF187_27 rfl (ppC rfl pp0) rfl rfl pb0 rfl rfl rfl) <| sq z131 (oMv rfl rfl) <| sq z131 (oBS (es := List.map eI ([t_34_l5] : List Int)) rfl sF27 rfl (ptC rfl (fxI fx0) rfl pt0) (flat0 rfl fun _ => rfl)) <| sq z131 (oApO (en := eI) (M := ([t_34_l5] : List Int)) rfl hx83 rfl sF27 rfl rfl uF27 (.inl ⟨_, rfl⟩) rfl rfl rfl rfl (el_own rfl rfl) (flat0 rfl fun _ => rfl)) <| sq z131 (oMv rfl rfl) <| sq z131 (oCa (xs := [.v false [.mp 0 0 0], .v false [.own 83 0 0], .v false [.im 0 _]]) (vs := [(false, [.im 0 _])]) (v := .v false [.im 0 _]) (ih hx85) (.inl rfl) rfl kF131_197_27_2 rfl (ppPx (ob' := ⟨0, 0, true, true, false, true, [⟨.imm, 0, 1, .row 2 (List.map e_S_Feature s_o0_0_l5)⟩, ⟨.imm, 0, 1, .row 2 (List.map e_S_Feature s_o0_1_l5)⟩, ⟨.imm, 0, 0, .sc (.int .i64 (w64 (s_o0_2_l5 - 1)))⟩, ⟨.imm, 0, 0, .sc (.bool s_o0_3_l5)⟩, ⟨.sh, 0, 0, .row 1 (List.map eI s_o0_4_l5)⟩, ⟨.imm, 0, 0, .sc (.int .i64 s_o0_5_l5)⟩]⟩) rfl rfl rfl (by kernel_rfl) (ppM (take_own rfl rfl) (ppC rfl pp0))) rfl rfl (pbPx (ob' := ⟨0, 1, true, true, false, true, [⟨.imm, 1, 1, .row 2 (List.map e_S_Feature x85.2.targets)⟩, ⟨.imm, 1, 1, .row 2 (List.map e_S_Feature x85.2.stock)⟩, ⟨.imm, 1, 0, .sc (.int .i64 x85.2.left)⟩, ⟨.imm, 1, 0, .sc (.bool x85.2.found)⟩, ⟨.sh, 1, 0, .row 1 (List.map eI x85.2.best)⟩, ⟨.imm, 1, 0, .sc (.int .i64 x85.2.least)⟩]⟩) rfl rfl (by kernel_rfl) pb0) rfl rfl rfl) <| nl) ?_
                  refine Unw.seq ?_
                  by_cases hc25 : x85.1 = true
                  · rw [if_pos hc25] at h
                    refine Go.condT rfl (Iff.rfl.2 hc25) ?_
                    refine Go.seq ?_
                    refine Go.r1 c131 rfl rfl (st1 := mk [] [(0, some ⟨0, 0, true, true, false, true, [⟨.imm, 0, 1, .row 2 (List.map e_S_Feature x85.2.targets)⟩, ⟨.imm, 0, 1, .row 2 (List.map e_S_Feature x85.2.stock)⟩, ⟨.imm, 0, 0, .sc (.int .i64 x85.2.left)⟩, ⟨.imm, 0, 0, .sc (.bool x85.2.found)⟩, ⟨.sh, 0, 0, .row 1 (List.map eI x85.2.best)⟩, ⟨.imm, 0, 0, .sc (.int .i64 x85.2.least)⟩]⟩)]) (by kernel_rfl) (sq z131 (oAsI rfl rfl) <| nl) ?_
                    refine Unw.seq ?_
                    refine Go.ret (Unw.ret ?_)
                    cases h
                    exact ⟨rfl, (fin_of rfl rF131 rfl (by kernel_rfl))⟩
                  · rw [if_neg hc25] at h
                    refine Go.condF rfl (byF Iff.rfl hc25) ?_
                    refine Go.skip ?_
                    refine Unw.blk ?_
                    exact K20 _ ⟨x85.2.targets, x85.2.stock, x85.2.left, x85.2.found, x85.2.best, x85.2.least, h, (by kernel_rfl)⟩
      · rw [if_neg hc14] at h
        refine Go.condF rfl (byF iDec hc14) ?_
        refine Go.exit ?_
        refine Unw.seqx ?_
        refine Unw.nil ?_
        cases h
        exact ⟨rfl, (by kernel_rfl)⟩
    · rintro ⟨e, st⟩ hp
      rcases o with ⟨s_o0_0_e0_5, s_o0_1_e0_5, s_o0_2_e0_5, s_o0_3_e0_5, s_o0_4_e0_5, s_o0_5_e0_5⟩ | r2
      · dsimp only at h
        obtain ⟨he, hst⟩ := hp
        obtain rfl : e = .exit 0 := he
        refine Unw.blkx ?_
        refine Unw.seq ?_
        refine Go.seq ?_
        refine Go.r1 c131 rfl rfl hst (sq z131 (oAsI rfl rfl) <| nl) ?_
        refine Unw.seq ?_
        refine Go.ret (Unw.ret ?_)
        cases h
        exact Fin_ret (fin_of rfl rF131 rfl (by kernel_rfl))
      · dsimp only at h
        obtain ⟨he, hfin⟩ := hp
        obtain rfl : e = .ret := he
        cases h
        exact Unw.ret (Fin_ret hfin)
theorem L_impl_matchSearch_run {s_0 : S_matchSearch} {matches_1 : (List Int)} {sum_2 : Int} {r : (Bool × S_matchSearch)} (h : impl_matchSearch_run s_0 matches_1 sum_2 = some r) : FL Try.prog cfg 131 [.ptr true [(.imm, .row 2 (List.map e_S_Feature s_0.targets)), (.imm, .row 2 (List.map e_S_Feature s_0.stock)), (.imm, .sc (.int .i64 s_0.left)), (.imm, .sc (.bool s_0.found)), (.sh, .row 1 (List.map eI s_0.best)), (.imm, .sc (.int .i64 s_0.least))], .mv 1 (List.map eI matches_1), .im 2 false [.sc (.int .i64 sum_2)]] = some ([(false, [.im 0 (.sc (.bool r.1))])], [.ptr true [(.imm, .row 2 (List.map e_S_Feature r.2.targets)), (.imm, .row 2 (List.map e_S_Feature r.2.stock)), (.imm, .sc (.int .i64 r.2.left)), (.imm, .sc (.bool r.2.found)), (.sh, .row 1 (List.map eI r.2.best)), (.imm, .sc (.int .i64 r.2.least))]]) := by
  unfold impl_matchSearch_run at h
  obtain ⟨n, hn⟩ := fixO_iter h
  clear h
  induction n generalizing s_0 matches_1 sum_2 r with
  | zero => cases hn
  | succ n ihn => exact L_impl_matchSearch_run_F (self := iterO _ n) (fun h => ihn h) hn
theorem L_impl_BestMatches {targets_0 : (List S_Feature)} {stock_1 : (List S_Feature)} {budget_2 : Int} {r : ((List Int) × Int × Int)} (h : impl_BestMatches targets_0 stock_1 budget_2 = some r) : FL Try.prog cfg 50 [.im 2 false [.row 2 (List.map e_S_Feature targets_0)], .im 2 false [.row 2 (List.map e_S_Feature stock_1)], .im 2 false [.sc (.int .i64 budget_2)]] = some ([(false, [.ow 0 1 (List.map eI r.1)]), (false, [.im 0 (.sc (.int .i64 r.2.1))]), (false, [.im 0 (.sc (.int .i64 r.2.2))])], []) := by
  unfold impl_BestMatches at h
  refine FL_goS (A := [(0, .v false [.im 2 (.row 2 (List.map e_S_Feature targets_0))]), (1, .v false [.im 2 (.row 2 (List.map e_S_Feature stock_1))]), (2, .v false [.im 2 (.sc (.int .i64 budget_2))])]) (B := [(0, none), (1, none), (2, none)]) (nt := 33) rfl rfl Try.func50 rfl rfl rfl rfl ?_
  refine Go.seq ?_
  refine Go.r0 c50 rfl rfl (sq z50 (oAsN rfl rfl eF27) <| sq z50 (oAsI rfl rfl) <| sq z50 (oAsI rfl rfl) <| nl) ?_
  refine Unw.seq ?_
  refine Go.seq ?_
  refine Go.seq ?_
  obtain ⟨x14, hx14, h⟩ := bs h
  refine Go.r0 c50 rfl rfl (sq z50 (oMv rfl rfl) <| sq z50 (oMv rfl rfl) <| sq z50 (oMv rfl rfl) <| sq z50 (oCa (xs := [.v false [.im 2 _], .v false [.im 2 _], .v false [.im 2 _]]) (vs := [(false, [.im 0 _])]) (v := .v false [.im 0 _]) (L_impl_matchesCode hx14) (.inl rfl) rfl kF130_73_73_2 rfl (ppC rfl (ppC rfl (ppC rfl pp0))) rfl rfl pb0 rfl rfl rfl) <| sq z50 (oAsI rfl rfl) <| nl) ?_
  refine Unw.seq ?_
  refine Go.seq ?_
  refine Go.r0 c50 rfl rfl (sq z50 (oMv rfl rfl) <| sq z50 (oBi rfl rfl rfl rfl) <| nl) ?_
  refine Unw.seq ?_
  by_cases hc1 : x14 ≠ 0
  · rw [if_pos hc1] at h
    refine Go.condT rfl (iNe.2 hc1) ?_
    refine Go.seq ?_
    refine Go.r0 c50 rfl rfl (sq z50 (oMv rfl rfl) <| sq z50 (oAsN rfl rfl eF27) <| sq z50 (oAsI rfl rfl) <| sq z50 (oAsI rfl rfl) <| nl) ?_
    refine Unw.seq ?_
    refine Go.ret (Unw.ret ?_)
    cases h
    exact Fin_ret (fin_of rfl rF50 rfl (by kernel_rfl))
  · rw [if_neg hc1] at h
    refine Go.condF rfl (byF iNe hc1) ?_
    refine Go.skip ?_
    refine Unw.seq ?_
    refine Go.seq ?_
    refine Go.r0 c50 rfl rfl (sq z50 (oMv rfl rfl) <| sq z50 (oMv rfl rfl) <| sq z50 (oMv rfl rfl) <| sq z50 (oBu (cs := [.im 2 _, .im 2 _, .im 2 _, .im 0 _, .nil, .im 0 _]) rfl bF199 rfl) <| sq z50 (oBx rfl tF199 rfl (tkI (tkI (tkI (tkI (tkN (tkI tk0))))))) <| sq z50 (oAsP rfl rfl) <| nl) ?_
    refine Unw.seq ?_
    refine Go.seq ?_
    refine Go.seq ?_
    obtain ⟨x24, hx24, h⟩ := bs h
    refine Go.r1 c50 rfl rfl (st1 := mk [(10, .v false [.mp 22 0 0])] [(22, some ⟨0, 0, false, true, false, true, [⟨.imm, 0, 2, .row 2 (List.map e_S_Feature targets_0)⟩, ⟨.imm, 0, 2, .row 2 (List.map e_S_Feature stock_1)⟩, ⟨.imm, 0, 0, .sc (.int .i64 budget_2)⟩, ⟨.imm, 0, 0, .sc (.bool false)⟩, ⟨.sh, 0, 0, .row 1 (List.map eI ([] : List Int))⟩, ⟨.imm, 0, 0, .sc (.int .i64 0)⟩]⟩)]) (by kernel_rfl) (sq z50 (oMv rfl rfl) <| sq z50 (oCa (xs := [.v false [.mp 22 0 0], .v false [.nil], .v false [.im 0 _]]) (vs := [(false, [.im 0 _])]) (v := .v false [.im 0 _]) (L_impl_matchSearch_run hx24) (.inl rfl) rfl kF131_197_27_2 rfl (ppPx (ob' := ⟨0, 0, false, true, false, true, [⟨.imm, 0, 2, .row 2 (List.map e_S_Feature targets_0)⟩, ⟨.imm, 0, 2, .row 2 (List.map e_S_Feature stock_1)⟩, ⟨.imm, 0, 0, .sc (.int .i64 budget_2)⟩, ⟨.imm, 0, 0, .sc (.bool false)⟩, ⟨.sh, 0, 0, .row 1 (List.map eI ([] : List Int))⟩, ⟨.imm, 0, 0, .sc (.int .i64 0)⟩]⟩) rfl rfl rfl (by kernel_rfl) (ppM take_nil (ppC rfl pp0))) rfl rfl (pbPx (ob' := ⟨0, 1, false, true, false, true, [⟨.imm, 1, 2, .row 2 (List.map e_S_Feature x24.2.targets)⟩, ⟨.imm, 1, 2, .row 2 (List.map e_S_Feature x24.2.stock)⟩, ⟨.imm, 1, 0, .sc (.int .i64 x24.2.left)⟩, ⟨.imm, 1, 0, .sc (.bool x24.2.found)⟩, ⟨.sh, 1, 0, .row 1 (List.map eI x24.2.best)⟩, ⟨.imm, 1, 0, .sc (.int .i64 x24.2.least)⟩]⟩) rfl rfl (by kernel_rfl) pb0) rfl rfl rfl) <| nl) ?_
    refine Unw.seq ?_
    by_cases hc2 : x24.1 = true
    · rw [if_pos hc2] at h
      refine Go.condT rfl (Iff.rfl.2 hc2) ?_
      refine Go.seq ?_
      refine Go.r1 c50 rfl rfl (st1 := mk [] []) (by kernel_rfl) (sq z50 (oAsN rfl rfl eF27) <| sq z50 (oAsI rfl rfl) <| sq z50 (oAsI rfl rfl) <| nl) ?_
      refine Unw.seq ?_
      refine Go.ret (Unw.ret ?_)
      cases h
      exact Fin_ret (fin_of rfl rF50 rfl (by kernel_rfl))
    · rw [if_neg hc2] at h
      refine Go.condF rfl (byF Iff.rfl hc2) ?_
      refine Go.skip ?_
      refine Unw.seq ?_
      refine Go.seq ?_
      refine Go.dr c50 rfl rfl rfl (st1 := mk [(10, .v false [.mp 22 0 0])] [(22, some ⟨0, 0, false, true, false, true, [⟨.imm, 0, 2, .row 2 (List.map e_S_Feature x24.2.targets)⟩, ⟨.imm, 0, 2, .row 2 (List.map e_S_Feature x24.2.stock)⟩, ⟨.imm, 0, 0, .sc (.int .i64 x24.2.left)⟩, ⟨.imm, 0, 0, .sc (.bool x24.2.found)⟩, ⟨.sh, 0, 0, .row 1 (List.map eI x24.2.best)⟩, ⟨.imm, 0, 0, .sc (.int .i64 x24.2.least)⟩]⟩)]) (by kernel_rfl) (mk [(6, .v false [.own 6 0 0]), (7, iv x24.2.least), (8, iv 0)] [(6, some ⟨0, 0, false, false, false, false, [⟨.sh, 0, 0, .row 1 (List.map eI x24.2.best)⟩]⟩)]) (sT rfl (dN z50 rfl (oMv rfl rfl)) <| sT rfl (dN z50 rfl (oNl rfl rfl rfl)) <| sT rfl (dN z50 rfl (oFA (r' := .mp 22 0 4) rfl fF199_4 rfl rfl)) <| sT rfl (dN z50 rfl (oLd (cs := [.own 22 0 4]) rfl tF27 rfl rfl)) <| sT rfl (dN z50 rfl (oMv rfl rfl)) <| sF (dN z50 rfl (oNl rfl rfl rfl)) trivial (sF (dN z50 rfl (oFA (r' := .mp 22 0 5) rfl fF199_5 rfl rfl)) trivial (sF (dN z50 rfl (oLd (cs := [.im 0 _]) rfl tF2 rfl rfl)) trivial (sS (dN z50 rfl (oAsO rfl rfl rfl rfl rfl)) trivial (sS (dN z50 rfl (oAsI rfl rfl)) trivial (sS (dN z50 rfl (oAsI rfl rfl)) trivial (sD (by kernel_rfl))))) (sS (dN z50 rfl (oAsO rfl rfl rfl rfl rfl)) trivial (sT rfl (dN z50 rfl (oLd (cs := [.im 0 _]) rfl tF2 rfl rfl)) <| sS (dN z50 rfl (oAsI rfl rfl)) trivial (sS (dN z50 rfl (oAsI rfl rfl)) trivial (sD (by kernel_rfl)))))) (sS (dN z50 rfl (oAsO rfl rfl rfl rfl rfl)) trivial (sT rfl (dN z50 rfl (oFA (r' := .mp 22 0 5) rfl fF199_5 rfl rfl)) <| sT rfl (dN z50 rfl (oLd (cs := [.im 0 _]) rfl tF2 rfl rfl)) <| sS (dN z50 rfl (oAsI rfl rfl)) trivial (sS (dN z50 rfl (oAsI rfl rfl)) trivial (sD (by kernel_rfl)))))) (sS (dN z50 rfl (oAsO rfl rfl rfl rfl rfl)) trivial (sT rfl (dN z50 rfl (oNl rfl rfl rfl)) <| sT rfl (dN z50 rfl (oFA (r' := .mp 22 0 5) rfl fF199_5 rfl rfl)) <| sT rfl (dN z50 rfl (oLd (cs := [.im 0 _]) rfl tF2 rfl rfl)) <| sS (dN z50 rfl (oAsI rfl rfl)) trivial (sS (dN z50 rfl (oAsI rfl rfl)) trivial (sD (by kernel_rfl)))))) ?_
      refine Unw.seq ?_
      refine Go.ret (Unw.ret ?_)
      cases h
      exact Fin_ret (fin_of rfl rF50 rfl (by kernel_rfl))
theorem L_impl_RankedFeatures_c1 {i_0 : Int} {k_1 : Int} {cap0_0 : (List S_Feature)} {cap1_0 : ByteArray} {cap1_1 : (List Int)} {r : Int} (h : impl_RankedFeatures_c1 i_0 k_1 cap0_0 cap1_0 cap1_1 = some r) : FL Try.prog cfg 229 [.im 2 false [.sc (.int .i64 i_0)], .im 2 false [.sc (.int .i64 k_1)], .im 2 false [.cp [.row 2 (List.map e_S_Feature cap0_0)] 0], .im 2 false [.cp [.sc (.string cap1_0), .row 1 (List.map eI cap1_1)] 0]] = some ([(false, [.im 0 (.sc (.int .i64 r))])], []) := by
  unfold impl_RankedFeatures_c1 at h
  refine FL_goS (A := [(0, .v false [.im 2 (.sc (.int .i64 i_0))]), (1, .v false [.im 2 (.sc (.int .i64 k_1))]), (2, .v false [.im 2 (.cp [.row 2 (List.map e_S_Feature cap0_0)] 0)]), (3, .v false [.im 2 (.cp [.sc (.string cap1_0), .row 1 (List.map eI cap1_1)] 0)])]) (B := [(0, none), (1, none), (2, none), (3, none)]) (nt := 20) rfl rfl Try.func229 rfl rfl rfl rfl ?_
  refine Go.seq ?_
  refine Go.r0 c229 rfl rfl (sq z229 (oAsI rfl rfl) <| nl) ?_
  refine Unw.seq ?_
  refine Go.seq ?_
  obtain ⟨x9, hx9, h⟩ := bs h
  obtain ⟨x15, hx15, h⟩ := bs h
  obtain ⟨x12, hx12, h⟩ := bs h
  obtain ⟨x18, hx18, h⟩ := bs h
  refine Go.dr c229 rfl rfl rfl rfl (mk [(6, iv (w64 (x12 - x18)))] []) (sT rfl (dN z229 rfl (oLd (cs := [.im 2 _]) rfl tF73 rfl rfl)) <| sT rfl (dN z229 rfl (oMv rfl rfl)) <| sT rfl (dN z229 rfl (oIAI rfl hx9 sF73 rfl rfl)) <| sT rfl (dN z229 rfl (oLd (cs := [.im 2 _, .im 2 _]) rfl tF194 rfl rfl)) <| sT rfl (dN z229 rfl (oLd (cs := [.im 2 _, .im 2 _]) rfl tF194 rfl rfl)) <| sT rfl (dN z229 rfl (oLd (cs := [.im 2 _]) rfl tF73 rfl rfl)) <| sT rfl (dN z229 rfl (oMv rfl rfl)) <| sT rfl (dN z229 rfl (oIAI rfl hx15 sF73 rfl rfl)) <| sT rfl (dN z229 rfl (oLd (cs := [.im 2 _, .im 2 _]) rfl tF194 rfl rfl)) <| sT rfl (dN z229 rfl (oLd (cs := [.im 2 _, .im 2 _]) rfl tF194 rfl rfl)) <| sS (dN z229 rfl (oCa (xs := [.v true [.im 2 _, .im 2 _], .v true [.im 2 _, .im 2 _]]) (vs := [(false, [.im 0 _])]) (v := .v false [.im 0 _]) (L_impl_featureDistance hx12) (.inl rfl) rfl kF155_194_194 rfl (ppC rfl (ppC rfl pp0)) rfl rfl pb0 rfl rfl rfl)) trivial (sS (dN z229 rfl (oCa (xs := [.v true [.im 2 _, .im 2 _], .v true [.im 2 _, .im 2 _]]) (vs := [(false, [.im 0 _])]) (v := .v false [.im 0 _]) (L_impl_featureDistance hx18) (.inl rfl) rfl kF155_194_194 rfl (ppC rfl (ppC rfl pp0)) rfl rfl pb0 rfl rfl rfl)) trivial (sT rfl (dN z229 rfl (oBi rfl rfl rfl rfl)) <| sS (dN z229 rfl (oAsI rfl rfl)) trivial (sD (by kernel_rfl))))) ?_
  refine Unw.seq ?_
  refine Go.ret (Unw.ret ?_)
  cases h
  exact Fin_ret (fin_of rfl rF229 rfl (by kernel_rfl))
theorem L_slices_insertionSortCmpFunc_int64_229 {data_0 : (List Int)} {a_1 : Int} {b_2 : Int} {fc3_0_0 : (List S_Feature)} {fc3_1_0 : ByteArray} {fc3_1_1 : (List Int)} {r : (List Int)} (h : slices_insertionSortCmpFunc_int64 data_0 a_1 b_2 (fun b0 b1 => impl_RankedFeatures_c1 b0 b1 fc3_0_0 fc3_1_0 fc3_1_1) = some r) : FL Try.prog cfg 274 [.ow 1 (List.map eI data_0), .im 2 false [.sc (.int .i64 a_1)], .im 2 false [.sc (.int .i64 b_2)], .im 2 false [.clo 229 [.cp [.row 2 (List.map e_S_Feature fc3_0_0)] 0, .cp [.sc (.string fc3_1_0), .row 1 (List.map eI fc3_1_1)] 0]]] = some ([], [.ow 1 (List.map eI r)]) := by
  unfold slices_insertionSortCmpFunc_int64 at h
  refine FL_goS (A := [(0, .v false [.own 0 0 0]), (1, .v false [.im 2 (.sc (.int .i64 a_1))]), (2, .v false [.im 2 (.sc (.int .i64 b_2))]), (3, .v false [.im 2 (.clo 229 [.cp [.row 2 (List.map e_S_Feature fc3_0_0)] 0, .cp [.sc (.string fc3_1_0), .row 1 (List.map eI fc3_1_1)] 0])])]) (B := [(0, some ⟨0, 0, true, false, false, false, [⟨.sh, 0, 0, .row 1 (List.map eI data_0)⟩]⟩), (1, none), (2, none), (3, none)]) (nt := 53) rfl rfl Try.func274 rfl rfl rfl rfl ?_
  refine Go.seq ?_
  refine Go.r0 c274 rfl rfl (sq z274 (oMv rfl rfl) <| sq z274 (oBi rfl rfl rfl rfl) <| sq z274 (oAsI rfl rfl) <| nl) ?_
  refine Unw.seq ?_
  refine Go.block ?_
  obtain ⟨o, hl, h⟩ := bs h
  refine Go.lp c274 rfl _ (fun (s : (Int × (List Int))) => match s with | (i_8_l1, data_o0_l1) => mk [(0, .v false [.own 0 0 0]), (1, iv a_1), (2, iv b_2), (3, .v false [.im 2 (.clo 229 [.cp [.row 2 (List.map e_S_Feature fc3_0_0)] 0, .cp [.sc (.string fc3_1_0), .row 1 (List.map eI fc3_1_1)] 0])]), (8, iv i_8_l1)] [(0, some ⟨0, 0, true, false, false, false, [⟨.sh, 0, 0, .row 1 (List.map eI data_o0_l1)⟩]⟩)]) (fun (r2 : (List Int)) (p : Ex × St) => p.1 = .exit 0 ∧ fin Try.prog cfg 274 Try.f274 [.ow 1 (List.map eI data_0), .im 2 false [.sc (.int .i64 a_1)], .im 2 false [.sc (.int .i64 b_2)], .im 2 false [.clo 229 [.cp [.row 2 (List.map e_S_Feature fc3_0_0)] 0, .cp [.sc (.string fc3_1_0), .row 1 (List.map eI fc3_1_1)] 0]]] p.2 = some ([], [.ow 1 (List.map eI r2)])) hl (by kernel_rfl) ?_ ?_ ?_
  · intro o p hp e
    exact nomatch (hp.1.symm.trans e)
  · rintro ⟨i_8_l1, data_o0_l1⟩ o h
    unfold slices_insertionSortCmpFunc_int64_l1 at h
    dsimp only at h
    refine Go.seq ?_
    refine Go.seq ?_
    refine Go.r0 c274 rfl rfl (sq z274 (oMv rfl rfl) <| sq z274 (oMv rfl rfl) <| sq z274 (oBi rfl rfl rfl rfl) <| nl) ?_
    refine Unw.seq ?_
    by_cases hc15 : i_8_l1 < b_2
    · rw [if_pos hc15] at h
      refine Go.condT rfl (iDec.2 hc15) ?_
      refine Go.skip ?_
      refine Unw.seq ?_
      refine Go.seq ?_
      refine Go.block ?_
      refine Go.seq ?_
      refine Go.r0 c274 rfl rfl (sq z274 (oMv rfl rfl) <| sq z274 (oAsI rfl rfl) <| nl) ?_
      refine Unw.seq ?_
      refine Go.block ?_
      obtain ⟨o, hl, h⟩ := bs h
      refine Go.lp c274 rfl _ (fun (s : (Int × (List Int))) => match s with | (j_9_l4, data_o0_l4) => mk [(0, .v false [.own 0 0 0]), (1, iv a_1), (2, iv b_2), (3, .v false [.im 2 (.clo 229 [.cp [.row 2 (List.map e_S_Feature fc3_0_0)] 0, .cp [.sc (.string fc3_1_0), .row 1 (List.map eI fc3_1_1)] 0])]), (8, iv i_8_l1), (9, iv j_9_l4)] [(0, some ⟨0, 0, true, false, false, false, [⟨.sh, 0, 0, .row 1 (List.map eI data_o0_l4)⟩]⟩)]) (fun (data_o0_e2_4 : (List Int)) (p : Ex × St) => p.1 = .exit 2 ∧ p.2.norm ([0, 1, 2, 3, 8], [0]) = mk [(0, .v false [.own 0 0 0]), (1, iv a_1), (2, iv b_2), (3, .v false [.im 2 (.clo 229 [.cp [.row 2 (List.map e_S_Feature fc3_0_0)] 0, .cp [.sc (.string fc3_1_0), .row 1 (List.map eI fc3_1_1)] 0])]), (8, iv i_8_l1)] [(0, some ⟨0, 0, true, false, false, false, [⟨.sh, 0, 0, .row 1 (List.map eI data_o0_e2_4)⟩]⟩)]) hl (by kernel_rfl) ?_ ?_ ?_
      · intro o p hp e
        exact nomatch (hp.1.symm.trans e)
      · rintro ⟨j_9_l4, data_o0_l4⟩ o h
        unfold slices_insertionSortCmpFunc_int64_l4 at h
        dsimp only at h
        refine Go.seq ?_
        refine Go.seq ?_
        obtain ⟨t_34_m4, hm24, h⟩ := bs h
        refine Go.dr c274 rfl rfl rfl rfl (mk [(0, .v false [.own 0 0 0]), (1, iv a_1), (2, iv b_2), (3, .v false [.im 2 (.clo 229 [.cp [.row 2 (List.map e_S_Feature fc3_0_0)] 0, .cp [.sc (.string fc3_1_0), .row 1 (List.map eI fc3_1_1)] 0])]), (8, iv i_8_l1), (9, iv j_9_l4), (34, bv t_34_m4)] [(0, some ⟨0, 0, true, false, false, false, [⟨.sh, 0, 0, .row 1 (List.map eI data_o0_l4)⟩]⟩)]) ?_ ?_
        · by_cases hc22 : j_9_l4 > a_1
          · rw [if_pos hc22] at hm24
            obtain ⟨x25, hx25, hm24⟩ := bs hm24
            obtain ⟨x30, hx30, hm24⟩ := bs hm24
            obtain ⟨x32, hx32, hm24⟩ := bs hm24
            cases hm24
            exact sT rfl (dN z274 rfl (oMv rfl rfl)) <| sT rfl (dN z274 rfl (oMv rfl rfl)) <| sT rfl (dN z274 rfl (oBi rfl rfl rfl rfl)) <| sT rfl (dN z274 rfl (oMv rfl rfl)) <| sT rfl (dT z274 rfl rfl rfl (iDec.2 hc22) (oMv rfl rfl)) <| sT rfl (dT z274 rfl rfl rfl (iDec.2 hc22) (oMv rfl rfl)) <| sT rfl (dT z274 rfl rfl rfl (iDec.2 hc22) (oMv rfl rfl)) <| sT rfl (dT z274 rfl rfl rfl (iDec.2 hc22) (oIAO rfl hx25 sF27 rfl rfl rfl rfl)) <| sT rfl (dT z274 rfl rfl rfl (iDec.2 hc22) (oLdE (cs := [.im 0 _]) rfl tF2 rfl rfl rfl (fun e => nomatch e) (rd_get hx25) rfl rfl)) <| sT rfl (dT z274 rfl rfl rfl (iDec.2 hc22) (oMv rfl rfl)) <| sT rfl (dT z274 rfl rfl rfl (iDec.2 hc22) (oMv rfl rfl)) <| sT rfl (dT z274 rfl rfl rfl (iDec.2 hc22) (oBi rfl rfl rfl rfl)) <| sT rfl (dT z274 rfl rfl rfl (iDec.2 hc22) (oIAO rfl hx30 sF27 rfl rfl rfl rfl)) <| sT rfl (dT z274 rfl rfl rfl (iDec.2 hc22) (oLdE (cs := [.im 0 _]) rfl tF2 rfl rfl rfl (fun e => nomatch e) (rd_get hx30) rfl rfl)) <| sS (dT z274 rfl rfl rfl (iDec.2 hc22) (oCa (xs := [.v false [.im 0 _], .v false [.im 0 _], .v false [.im 2 _], .v false [.im 2 _]]) (vs := [(false, [.im 0 _])]) (v := .v false [.im 0 _]) (L_impl_RankedFeatures_c1 hx32) (.inr ⟨_, _, rfl, rfl⟩) rfl kF229_2_2_0_0 rfl (ppC rfl (ppC rfl (ppC rfl (ppC rfl pp0)))) rfl rfl pb0 rfl rfl rfl)) trivial (sT rfl (dT z274 rfl rfl rfl (iDec.2 hc22) (oBi rfl rfl rfl rfl)) <| sT rfl (dN z274 rfl (oPkT rfl rfl (iDec.2 hc22) rfl)) <| sD (by kernel_rfl))
          · rw [if_neg hc22] at hm24
            cases hm24
            exact sT rfl (dN z274 rfl (oMv rfl rfl)) <| sT rfl (dN z274 rfl (oMv rfl rfl)) <| sT rfl (dN z274 rfl (oBi rfl rfl rfl rfl)) <| sT rfl (dN z274 rfl (oMv rfl rfl)) <| sT rfl (dF rfl rfl rfl (byF iDec hc22) rfl) <| sT rfl (dF rfl rfl rfl (byF iDec hc22) rfl) <| sT rfl (dF rfl rfl rfl (byF iDec hc22) rfl) <| sT rfl (dF rfl rfl rfl (byF iDec hc22) rfl) <| sT rfl (dF rfl rfl rfl (byF iDec hc22) rfl) <| sT rfl (dF rfl rfl rfl (byF iDec hc22) rfl) <| sT rfl (dF rfl rfl rfl (byF iDec hc22) rfl) <| sT rfl (dF rfl rfl rfl (byF iDec hc22) rfl) <| sT rfl (dF rfl rfl rfl (byF iDec hc22) rfl) <| sT rfl (dF rfl rfl rfl (byF iDec hc22) rfl) <| sS (dF rfl rfl rfl (byF iDec hc22) rfl) trivial (sT rfl (dF rfl rfl rfl (byF iDec hc22) rfl) <| sT rfl (dN z274 rfl (oPkF rfl rfl (byF iDec hc22) rfl)) <| sD (by kernel_rfl))
        · refine Unw.seq ?_
          by_cases hc23 : t_34_m4 = true
          · rw [if_pos hc23] at h
            refine Go.condT rfl (Iff.rfl.2 hc23) ?_
            refine Go.skip ?_
            refine Unw.seq ?_
            refine Go.seq ?_
            refine Go.block ?_
            obtain ⟨x45, hx45, h⟩ := bs h
            obtain ⟨x49, hx49, h⟩ := bs h
            obtain ⟨x51, hx51, h⟩ := bs h
            obtain ⟨x52, hx52, h⟩ := bs h
            refine Go.dr c274 rfl rfl rfl rfl (mk [(0, .v false [.own 0 0 0]), (1, iv a_1), (2, iv b_2), (3, .v false [.im 2 (.clo 229 [.cp [.row 2 (List.map e_S_Feature fc3_0_0)] 0, .cp [.sc (.string fc3_1_0), .row 1 (List.map eI fc3_1_1)] 0])]), (8, iv i_8_l1), (9, iv j_9_l4)] [(0, some ⟨0, 0, true, false, false, false, [⟨.sh, 0, 0, .row 1 (List.map eI ((data_o0_l4.set j_9_l4.toNat x45).set ((w64 (j_9_l4 - 1)).toNat) x49))⟩]⟩)]) (sT rfl (dN z274 rfl (oMv rfl rfl)) <| sT rfl (dN z274 rfl (oMv rfl rfl)) <| sT rfl (dN z274 rfl (oMv rfl rfl)) <| sT rfl (dN z274 rfl (oMv rfl rfl)) <| sT rfl (dN z274 rfl (oBi rfl rfl rfl rfl)) <| sT rfl (dN z274 rfl (oMv rfl rfl)) <| sT rfl (dN z274 rfl (oMv rfl rfl)) <| sT rfl (dN z274 rfl (oBi rfl rfl rfl rfl)) <| sT rfl (dN z274 rfl (oIAO rfl hx45 sF27 rfl rfl rfl rfl)) <| sT rfl (dN z274 rfl (oLdE (cs := [.im 0 _]) rfl tF2 rfl rfl rfl (fun e => nomatch e) (rd_get hx45) rfl rfl)) <| sT rfl (dN z274 rfl (oMv rfl rfl)) <| sT rfl (dN z274 rfl (oMv rfl rfl)) <| sT rfl (dN z274 rfl (oIAO rfl hx49 sF27 rfl rfl rfl rfl)) <| sT rfl (dN z274 rfl (oLdE (cs := [.im 0 _]) rfl tF2 rfl rfl rfl (fun e => nomatch e) (rd_get hx49) rfl rfl)) <| sT rfl (dN z274 rfl (oIAO rfl hx51 sF27 rfl rfl rfl rfl)) <| sS (dN z274 rfl (oStE (v' := x45) tF2 rfl rfl rfl (fxI fx0) rfl rfl (rd_get hx51) rfl)) trivial (sT rfl (dN z274 rfl (oIAO rfl hx52 sF27 rfl rfl rfl rfl)) <| sS (dN z274 rfl (oStE (v' := x49) tF2 rfl rfl rfl (fxI fx0) rfl rfl (rd_get hx52) rfl)) trivial (sD (by kernel_rfl)))) ?_
            refine Unw.blk ?_
            refine Unw.seq ?_
            refine Go.r0 c274 rfl rfl (sq z274 (oMv rfl rfl) <| sq z274 (oBi rfl rfl rfl rfl) <| sq z274 (oAsI rfl rfl) <| nl) ?_
            refine Unw.nil ?_
            cases h
            exact ⟨rfl, (by kernel_rfl)⟩
          · rw [if_neg hc23] at h
            refine Go.condF rfl (byF Iff.rfl hc23) ?_
            refine Go.exit ?_
            refine Unw.seqx ?_
            refine Unw.nil ?_
            cases h
            exact ⟨rfl, (by kernel_rfl)⟩
      · rintro ⟨e, st⟩ hp
        obtain ⟨data_o0_e2_4, rfl⟩ : ∃ y, y = o := ⟨o, rfl⟩
        obtain ⟨he, hst⟩ := hp
        obtain rfl : e = .exit 2 := he
        refine Unw.blkx ?_
        refine Unw.blk ?_
        refine Unw.seq ?_
        refine Go.r1 c274 rfl rfl hst (sq z274 (oMv rfl rfl) <| sq z274 (oBi rfl rfl rfl rfl) <| sq z274 (oAsI rfl rfl) <| nl) ?_
        refine Unw.nil ?_
        cases h
        exact ⟨rfl, (by kernel_rfl)⟩
    · rw [if_neg hc15] at h
      refine Go.condF rfl (byF iDec hc15) ?_
      refine Go.exit ?_
      refine Unw.seqx ?_
      refine Unw.nil ?_
      cases h
      exact ⟨rfl, (fin_of rfl rF274 rfl (by kernel_rfl))⟩
  · rintro ⟨e, st⟩ hp
    obtain ⟨r2, rfl⟩ : ∃ y, y = o := ⟨o, rfl⟩
    obtain ⟨he, hfin⟩ := hp
    obtain rfl : e = .exit 0 := he
    cases h
    refine Unw.blkx ?_
    exact Unw.nil (Fin_end hfin)
theorem L_slices_swapRangeCmpFunc_int64_229 {data_0 : (List Int)} {a_1 : Int} {b_2 : Int} {n_3 : Int} {fc4_0_0 : (List S_Feature)} {fc4_1_0 : ByteArray} {fc4_1_1 : (List Int)} {r : (List Int)} (h : slices_swapRangeCmpFunc_int64 data_0 a_1 b_2 n_3 (fun b0 b1 => impl_RankedFeatures_c1 b0 b1 fc4_0_0 fc4_1_0 fc4_1_1) = some r) : FL Try.prog cfg 287 [.ow 1 (List.map eI data_0), .im 2 false [.sc (.int .i64 a_1)], .im 2 false [.sc (.int .i64 b_2)], .im 2 false [.sc (.int .i64 n_3)], .im 2 false [.clo 229 [.cp [.row 2 (List.map e_S_Feature fc4_0_0)] 0, .cp [.sc (.string fc4_1_0), .row 1 (List.map eI fc4_1_1)] 0]]] = some ([], [.ow 1 (List.map eI r)]) := by
  unfold slices_swapRangeCmpFunc_int64 at h
  refine FL_goS (A := [(0, .v false [.own 0 0 0]), (1, .v false [.im 2 (.sc (.int .i64 a_1))]), (2, .v false [.im 2 (.sc (.int .i64 b_2))]), (3, .v false [.im 2 (.sc (.int .i64 n_3))]), (4, .v false [.im 2 (.clo 229 [.cp [.row 2 (List.map e_S_Feature fc4_0_0)] 0, .cp [.sc (.string fc4_1_0), .row 1 (List.map eI fc4_1_1)] 0])])]) (B := [(0, some ⟨0, 0, true, false, false, false, [⟨.sh, 0, 0, .row 1 (List.map eI data_0)⟩]⟩), (1, none), (2, none), (3, none), (4, none)]) (nt := 38) rfl rfl Try.func287 rfl rfl rfl rfl ?_
  refine Go.seq ?_
  refine Go.r0 c287 rfl rfl (sq z287 (oAsI rfl rfl) <| nl) ?_
  refine Unw.seq ?_
  refine Go.block ?_
  obtain ⟨o, hl, h⟩ := bs h
  refine Go.lp c287 rfl _ (fun (s : (Int × (List Int))) => match s with | (i_10_l1, data_o0_l1) => mk [(0, .v false [.own 0 0 0]), (1, iv a_1), (2, iv b_2), (3, iv n_3), (10, iv i_10_l1)] [(0, some ⟨0, 0, true, false, false, false, [⟨.sh, 0, 0, .row 1 (List.map eI data_o0_l1)⟩]⟩)]) (fun (r2 : (List Int)) (p : Ex × St) => p.1 = .exit 0 ∧ fin Try.prog cfg 287 Try.f287 [.ow 1 (List.map eI data_0), .im 2 false [.sc (.int .i64 a_1)], .im 2 false [.sc (.int .i64 b_2)], .im 2 false [.sc (.int .i64 n_3)], .im 2 false [.clo 229 [.cp [.row 2 (List.map e_S_Feature fc4_0_0)] 0, .cp [.sc (.string fc4_1_0), .row 1 (List.map eI fc4_1_1)] 0]]] p.2 = some ([], [.ow 1 (List.map eI r2)])) hl (by kernel_rfl) ?_ ?_ ?_
  · intro o p hp e
    exact nomatch (hp.1.symm.trans e)
  · rintro ⟨i_10_l1, data_o0_l1⟩ o h
    unfold slices_swapRangeCmpFunc_int64_l1 at h
    dsimp only at h
    refine Go.seq ?_
    refine Go.seq ?_
    refine Go.r0 c287 rfl rfl (sq z287 (oMv rfl rfl) <| sq z287 (oMv rfl rfl) <| sq z287 (oBi rfl rfl rfl rfl) <| nl) ?_
    refine Unw.seq ?_
    by_cases hc3 : i_10_l1 < n_3
    · rw [if_pos hc3] at h
      refine Go.condT rfl (iDec.2 hc3) ?_
      refine Go.skip ?_
      refine Unw.seq ?_
      refine Go.seq ?_
      refine Go.block ?_
      obtain ⟨x28, hx28, h⟩ := bs h
      obtain ⟨x34, hx34, h⟩ := bs h
      obtain ⟨x36, hx36, h⟩ := bs h
      obtain ⟨x37, hx37, h⟩ := bs h
      refine Go.dr c287 rfl rfl rfl rfl (mk [(0, .v false [.own 0 0 0]), (1, iv a_1), (2, iv b_2), (3, iv n_3), (10, iv i_10_l1)] [(0, some ⟨0, 0, true, false, false, false, [⟨.sh, 0, 0, .row 1 (List.map eI ((data_o0_l1.set ((w64 (a_1 + i_10_l1)).toNat) x28).set ((w64 (b_2 + i_10_l1)).toNat) x34))⟩]⟩)]) (sT rfl (dN z287 rfl (oMv rfl rfl)) <| sT rfl (dN z287 rfl (oMv rfl rfl)) <| sT rfl (dN z287 rfl (oMv rfl rfl)) <| sT rfl (dN z287 rfl (oBi rfl rfl rfl rfl)) <| sT rfl (dN z287 rfl (oMv rfl rfl)) <| sT rfl (dN z287 rfl (oMv rfl rfl)) <| sT rfl (dN z287 rfl (oMv rfl rfl)) <| sT rfl (dN z287 rfl (oBi rfl rfl rfl rfl)) <| sT rfl (dN z287 rfl (oMv rfl rfl)) <| sT rfl (dN z287 rfl (oMv rfl rfl)) <| sT rfl (dN z287 rfl (oMv rfl rfl)) <| sT rfl (dN z287 rfl (oBi rfl rfl rfl rfl)) <| sT rfl (dN z287 rfl (oIAO rfl hx28 sF27 rfl rfl rfl rfl)) <| sT rfl (dN z287 rfl (oLdE (cs := [.im 0 _]) rfl tF2 rfl rfl rfl (fun e => nomatch e) (rd_get hx28) rfl rfl)) <| sT rfl (dN z287 rfl (oMv rfl rfl)) <| sT rfl (dN z287 rfl (oMv rfl rfl)) <| sT rfl (dN z287 rfl (oMv rfl rfl)) <| sT rfl (dN z287 rfl (oBi rfl rfl rfl rfl)) <| sT rfl (dN z287 rfl (oIAO rfl hx34 sF27 rfl rfl rfl rfl)) <| sT rfl (dN z287 rfl (oLdE (cs := [.im 0 _]) rfl tF2 rfl rfl rfl (fun e => nomatch e) (rd_get hx34) rfl rfl)) <| sT rfl (dN z287 rfl (oIAO rfl hx36 sF27 rfl rfl rfl rfl)) <| sS (dN z287 rfl (oStE (v' := x28) tF2 rfl rfl rfl (fxI fx0) rfl rfl (rd_get hx36) rfl)) trivial (sT rfl (dN z287 rfl (oIAO rfl hx37 sF27 rfl rfl rfl rfl)) <| sS (dN z287 rfl (oStE (v' := x34) tF2 rfl rfl rfl (fxI fx0) rfl rfl (rd_get hx37) rfl)) trivial (sD (by kernel_rfl)))) ?_
      refine Unw.blk ?_
      refine Unw.seq ?_
      refine Go.r0 c287 rfl rfl (sq z287 (oMv rfl rfl) <| sq z287 (oBi rfl rfl rfl rfl) <| sq z287 (oAsI rfl rfl) <| nl) ?_
      refine Unw.nil ?_
      cases h
      exact ⟨rfl, (by kernel_rfl)⟩
    · rw [if_neg hc3] at h
      refine Go.condF rfl (byF iDec hc3) ?_
      refine Go.exit ?_
      refine Unw.seqx ?_
      refine Unw.nil ?_
      cases h
      exact ⟨rfl, (fin_of rfl rF287 rfl (by kernel_rfl))⟩
  · rintro ⟨e, st⟩ hp
    obtain ⟨r2, rfl⟩ : ∃ y, y = o := ⟨o, rfl⟩
    obtain ⟨he, hfin⟩ := hp
    obtain rfl : e = .exit 0 := he
    cases h
    refine Unw.blkx ?_
    exact Unw.nil (Fin_end hfin)
theorem L_slices_rotateCmpFunc_int64_229 {data_0 : (List Int)} {a_1 : Int} {m_2 : Int} {b_3 : Int} {fc4_0_0 : (List S_Feature)} {fc4_1_0 : ByteArray} {fc4_1_1 : (List Int)} {r : (List Int)} (h : slices_rotateCmpFunc_int64 data_0 a_1 m_2 b_3 (fun b0 b1 => impl_RankedFeatures_c1 b0 b1 fc4_0_0 fc4_1_0 fc4_1_1) = some r) : FL Try.prog cfg 285 [.ow 1 (List.map eI data_0), .im 2 false [.sc (.int .i64 a_1)], .im 2 false [.sc (.int .i64 m_2)], .im 2 false [.sc (.int .i64 b_3)], .im 2 false [.clo 229 [.cp [.row 2 (List.map e_S_Feature fc4_0_0)] 0, .cp [.sc (.string fc4_1_0), .row 1 (List.map eI fc4_1_1)] 0]]] = some ([], [.ow 1 (List.map eI r)]) := by
  unfold slices_rotateCmpFunc_int64 at h
  refine FL_goS (A := [(0, .v false [.own 0 0 0]), (1, .v false [.im 2 (.sc (.int .i64 a_1))]), (2, .v false [.im 2 (.sc (.int .i64 m_2))]), (3, .v false [.im 2 (.sc (.int .i64 b_3))]), (4, .v false [.im 2 (.clo 229 [.cp [.row 2 (List.map e_S_Feature fc4_0_0)] 0, .cp [.sc (.string fc4_1_0), .row 1 (List.map eI fc4_1_1)] 0])])]) (B := [(0, some ⟨0, 0, true, false, false, false, [⟨.sh, 0, 0, .row 1 (List.map eI data_0)⟩]⟩), (1, none), (2, none), (3, none), (4, none)]) (nt := 58) rfl rfl Try.func285 rfl rfl rfl rfl ?_
  refine Go.seq ?_
  refine Go.r0 c285 rfl rfl (sq z285 (oMv rfl rfl) <| sq z285 (oMv rfl rfl) <| sq z285 (oBi rfl rfl rfl rfl) <| sq z285 (oAsI rfl rfl) <| nl) ?_
  refine Unw.seq ?_
  refine Go.seq ?_
  refine Go.r0 c285 rfl rfl (sq z285 (oMv rfl rfl) <| sq z285 (oMv rfl rfl) <| sq z285 (oBi rfl rfl rfl rfl) <| sq z285 (oAsI rfl rfl) <| nl) ?_
  refine Unw.seq ?_
  refine Go.seq ?_
  refine Go.block ?_
  obtain ⟨o, hl, h⟩ := bs h
  refine Go.lp c285 rfl _ (fun (s : (Int × Int × (List Int))) => match s with | (i_10_l2, j_11_l2, data_o0_l2) => mk [(0, .v false [.own 0 0 0]), (2, iv m_2), (4, .v false [.im 2 (.clo 229 [.cp [.row 2 (List.map e_S_Feature fc4_0_0)] 0, .cp [.sc (.string fc4_1_0), .row 1 (List.map eI fc4_1_1)] 0])]), (10, iv i_10_l2), (11, iv j_11_l2)] [(0, some ⟨0, 0, true, false, false, false, [⟨.sh, 0, 0, .row 1 (List.map eI data_o0_l2)⟩]⟩)]) (fun (o : (Int × (List Int))) (p : Ex × St) => match o with | (i_10_e0_2, data_o0_e0_2) => p.1 = .exit 0 ∧ p.2.norm ([0, 2, 4, 10], [0]) = mk [(0, .v false [.own 0 0 0]), (2, iv m_2), (4, .v false [.im 2 (.clo 229 [.cp [.row 2 (List.map e_S_Feature fc4_0_0)] 0, .cp [.sc (.string fc4_1_0), .row 1 (List.map eI fc4_1_1)] 0])]), (10, iv i_10_e0_2)] [(0, some ⟨0, 0, true, false, false, false, [⟨.sh, 0, 0, .row 1 (List.map eI data_o0_e0_2)⟩]⟩)]) hl (by kernel_rfl) ?_ ?_ ?_
  · intro o p hp e
    obtain ⟨i_10_e0_2, data_o0_e0_2⟩ := o
    exact nomatch (hp.1.symm.trans e)
  · rintro ⟨i_10_l2, j_11_l2, data_o0_l2⟩ o h
    unfold slices_rotateCmpFunc_int64_l2 at h
    dsimp only at h
    refine Go.seq ?_
    refine Go.seq ?_
    refine Go.r0 c285 rfl rfl (sq z285 (oMv rfl rfl) <| sq z285 (oMv rfl rfl) <| sq z285 (oBi rfl rfl rfl rfl) <| nl) ?_
    refine Unw.seq ?_
    by_cases hc5 : i_10_l2 ≠ j_11_l2
    · rw [if_pos hc5] at h
      refine Go.condT rfl (iNe.2 hc5) ?_
      refine Go.skip ?_
      refine Unw.seq ?_
      refine Go.block ?_
      refine Go.seq ?_
      refine Go.r0 c285 rfl rfl (sq z285 (oMv rfl rfl) <| sq z285 (oMv rfl rfl) <| sq z285 (oBi rfl rfl rfl rfl) <| nl) ?_
      refine Unw.seq ?_
      by_cases hc6 : i_10_l2 > j_11_l2
      · rw [if_pos hc6] at h
        refine Go.condT rfl (iDec.2 hc6) ?_
        refine Go.seq ?_
        obtain ⟨x31, hx31, h⟩ := bs h
        refine Go.r0 c285 rfl rfl (sq z285 (oMv rfl rfl) <| sq z285 (oMv rfl rfl) <| sq z285 (oMv rfl rfl) <| sq z285 (oBi rfl rfl rfl rfl) <| sq z285 (oMv rfl rfl) <| sq z285 (oMv rfl rfl) <| sq z285 (oMv rfl rfl) <| sq z285 (oCa (xs := [.v false [.own 0 0 0], .v false [.im 0 _], .v false [.im 0 _], .v false [.im 0 _], .v false [.im 2 _]]) (vs := []) (v := .tup []) (L_slices_swapRangeCmpFunc_int64_229 hx31) (.inl rfl) rfl kF287_27_3_3_3_273 rfl (ppC rfl (ppC rfl (ppC rfl (ppC rfl (ppC rfl pp0))))) rfl rfl (pbO rfl rfl rfl rfl pb0) rfl rfl rfl) <| nl) ?_
        refine Unw.seq ?_
        refine Go.r1 c285 rfl rfl (st1 := mk [(0, .v false [.own 0 0 0]), (2, iv m_2), (4, .v false [.im 2 (.clo 229 [.cp [.row 2 (List.map e_S_Feature fc4_0_0)] 0, .cp [.sc (.string fc4_1_0), .row 1 (List.map eI fc4_1_1)] 0])]), (10, iv i_10_l2), (11, iv j_11_l2)] [(0, some ⟨0, 0, true, false, false, false, [⟨.sh, 0, 0, .row 1 (List.map eI x31)⟩]⟩)]) (by kernel_rfl) (sq z285 (oMv rfl rfl) <| sq z285 (oMv rfl rfl) <| sq z285 (oBi rfl rfl rfl rfl) <| sq z285 (oAsI rfl rfl) <| nl) ?_
        refine Unw.blk ?_
        refine Unw.nil ?_
        cases h
        exact ⟨rfl, (by kernel_rfl)⟩
      · rw [if_neg hc6] at h
        refine Go.condF rfl (byF iDec hc6) ?_
        refine Go.seq ?_
        obtain ⟨x46, hx46, h⟩ := bs h
        refine Go.r0 c285 rfl rfl (sq z285 (oMv rfl rfl) <| sq z285 (oMv rfl rfl) <| sq z285 (oMv rfl rfl) <| sq z285 (oBi rfl rfl rfl rfl) <| sq z285 (oMv rfl rfl) <| sq z285 (oMv rfl rfl) <| sq z285 (oBi rfl rfl rfl rfl) <| sq z285 (oMv rfl rfl) <| sq z285 (oBi rfl rfl rfl rfl) <| sq z285 (oMv rfl rfl) <| sq z285 (oMv rfl rfl) <| sq z285 (oCa (xs := [.v false [.own 0 0 0], .v false [.im 0 _], .v false [.im 0 _], .v false [.im 0 _], .v false [.im 2 _]]) (vs := []) (v := .tup []) (L_slices_swapRangeCmpFunc_int64_229 hx46) (.inl rfl) rfl kF287_27_3_3_3_273 rfl (ppC rfl (ppC rfl (ppC rfl (ppC rfl (ppC rfl pp0))))) rfl rfl (pbO rfl rfl rfl rfl pb0) rfl rfl rfl) <| nl) ?_
        refine Unw.seq ?_
        refine Go.r1 c285 rfl rfl (st1 := mk [(0, .v false [.own 0 0 0]), (2, iv m_2), (4, .v false [.im 2 (.clo 229 [.cp [.row 2 (List.map e_S_Feature fc4_0_0)] 0, .cp [.sc (.string fc4_1_0), .row 1 (List.map eI fc4_1_1)] 0])]), (10, iv i_10_l2), (11, iv j_11_l2)] [(0, some ⟨0, 0, true, false, false, false, [⟨.sh, 0, 0, .row 1 (List.map eI x46)⟩]⟩)]) (by kernel_rfl) (sq z285 (oMv rfl rfl) <| sq z285 (oMv rfl rfl) <| sq z285 (oBi rfl rfl rfl rfl) <| sq z285 (oAsI rfl rfl) <| nl) ?_
        refine Unw.blk ?_
        refine Unw.nil ?_
        cases h
        exact ⟨rfl, (by kernel_rfl)⟩
    · rw [if_neg hc5] at h
      refine Go.condF rfl (byF iNe hc5) ?_
      refine Go.exit ?_
      refine Unw.seqx ?_
      refine Unw.nil ?_
      cases h
      exact ⟨rfl, (by kernel_rfl)⟩
  · rintro ⟨e, st⟩ hp
    obtain ⟨i_10_e0_2, data_o0_e0_2⟩ := o
    dsimp only at h
    obtain ⟨he, hst⟩ := hp
    obtain rfl : e = .exit 0 := he
    refine Unw.blkx ?_
    refine Unw.seq ?_
    obtain ⟨x57, hx57, h⟩ := bs h
    refine Go.r1 c285 rfl rfl hst (sq z285 (oMv rfl rfl) <| sq z285 (oMv rfl rfl) <| sq z285 (oMv rfl rfl) <| sq z285 (oBi rfl rfl rfl rfl) <| sq z285 (oMv rfl rfl) <| sq z285 (oMv rfl rfl) <| sq z285 (oMv rfl rfl) <| sq z285 (oCa (xs := [.v false [.own 0 0 0], .v false [.im 0 _], .v false [.im 0 _], .v false [.im 0 _], .v false [.im 2 _]]) (vs := []) (v := .tup []) (L_slices_swapRangeCmpFunc_int64_229 hx57) (.inl rfl) rfl kF287_27_3_3_3_273 rfl (ppC rfl (ppC rfl (ppC rfl (ppC rfl (ppC rfl pp0))))) rfl rfl (pbO rfl rfl rfl rfl pb0) rfl rfl rfl) <| nl) ?_
    refine Unw.nil ?_
    cases h
    exact Fin_end (fin_of rfl rF285 rfl (by kernel_rfl))
end
end Go.Proofs.Ytigjhjlkdamncaa
