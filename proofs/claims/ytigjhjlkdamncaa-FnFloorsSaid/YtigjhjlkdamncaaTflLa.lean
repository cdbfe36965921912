/- The machine answers, at each function of the program that is reached, what its plain function answers. Conditions: none. -/
import Derived.Test.YtigjhjlkdamncaaProg
import Derived.KernelRfl
import Derived.Test.YtigjhjlkdamncaaSimRf
import Derived.Test.YtigjhjlkdamncaaTflT
namespace Go.Proofs.Ytigjhjlkdamncaa
open Go Go.Sim Go.Pw Go.Proofs
set_option linter.unusedVariables false
set_option linter.unusedSimpArgs false
set_option maxRecDepth 100000
set_option maxHeartbeats 4000000
noncomputable section

def e_S_Room (x : S_Room) : AV := .agg [.sc (.int .i64 x.Width), .sc (.int .i64 x.Length)]
def e_S_Stock (x : S_Stock) : AV := .agg [.sc (.int .i64 x.Board), .sc (.int .i64 x.Wide), .sc (.int .i64 x.Least), .sc (.int .i64 x.Stagger)]
def e_S_l00Src (x : S_l00Src) : AV := .agg [.row 1 (List.map (eK .u8) x.code), .sc (.int .i64 x.at_), .sc (.int .u64 x.seed)]
def e_S_floorSearch (x : S_floorSearch) : AV := .agg [.sc (.int .i64 x.room.Width), .sc (.int .i64 x.room.Length), .sc (.int .i64 x.stock.Board), .sc (.int .i64 x.stock.Wide), .sc (.int .i64 x.stock.Least), .sc (.int .i64 x.stock.Stagger), .sc (.int .i64 x.step), .sc (.int .i64 x.rows), .sc (.int .i64 x.left), .sc (.bool x.found), .row 1 (List.map eI x.best), .sc (.int .i64 x.least)]
def e_S_row (x : S_row) : AV := .agg [.row 1 (List.map eI x.pieces), .row 1 (List.map eI x.joints), .sc (.int .i64 x.last)]

def fc11 : FCfg := { par := [.cst false, .cst false], inn := [(4, some ([1, 5, 6, 7, 8], [5, 6])), (13, some ([1], [])), (14, some ([18, 19, 20], [18, 19, 20]))], out := [(1, some ([0, 1, 28], [])), (6, some ([1, 5, 6, 9, 10, 11, 59], [5, 6, 9])), (11, some ([1, 116], [])), (15, some ([4], []))], loopK := [], frz := [], sch := [] }
def fc14 : FCfg := { par := [.cst false], inn := [], out := [], loopK := [], frz := [], sch := [] }
def fc68 : FCfg := { par := [.cst false], inn := [(3, some ([2, 3, 6, 7], [2, 3, 7, 11])), (4, some ([2, 3, 6, 7, 8], [2, 3, 7, 8, 11])), (5, some ([2, 3, 6, 7, 8, 9], [2, 3, 7, 8, 11]))], out := [(5, some ([2, 3, 4, 5], [2, 3]))], loopK := [], frz := [], sch := [(5, .first 2 [7, 8] [0, 1, 3, 4, 5, 6] (.first 3 [4, 5, 6, 7, 8] [0, 1] (.first 0 [5, 6, 7, 8] [1, 4] (.fork 1 (.fork 4 (.fork 5 (.fork 6 (.fork 7 (.fork 8 (.done) (.stop)) (.stop)) (.stop)) (.stop)) (.stop)) (.fork 4 (.fork 1 (.fork 5 (.fork 6 (.fork 7 (.fork 8 (.done) (.stop)) (.stop)) (.stop)) (.stop)) (.fork 5 (.first 1 [6, 7, 8] [] (.fork 6 (.fork 7 (.fork 8 (.done) (.stop)) (.stop)) (.stop))) (.stop))) (.stop))))))] }
def fc69 : FCfg := { par := [.cst false, .cst false, .cst false, .cst false], inn := [(4, some ([2, 3, 4, 5, 11, 12], [4, 5])), (7, some ([13], [43])), (8, some ([], [])), (9, some ([13], [43]))], out := [(2, some ([2, 3, 4, 5, 11, 12, 33], [4, 5])), (11, some ([8, 9, 10], [8]))], loopK := [], frz := [], sch := [(11, .first 0 [1, 2, 3, 8, 9, 10] [4, 5, 6, 7] (.first 1 [2, 3, 8, 9, 10] [4, 5, 6, 7] (.first 2 [3, 8, 9, 10] [4, 5, 6, 7] (.first 3 [8, 9, 10] [4, 5, 6, 7] (.first 4 [5, 6, 7, 9, 10] [8] (.fork 5 (.fork 6 (.fork 7 (.fork 8 (.fork 9 (.fork 10 (.done) (.stop)) (.stop)) (.stop)) (.fork 8 (.first 7 [9, 10] [] (.fork 9 (.fork 10 (.done) (.stop)) (.stop))) (.stop))) (.fork 8 (.first 6 [7, 9, 10] [] (.first 7 [9, 10] [] (.fork 9 (.fork 10 (.done) (.stop)) (.stop)))) (.stop))) (.fork 8 (.first 5 [6, 7, 9, 10] [] (.first 6 [7, 9, 10] [] (.first 7 [9, 10] [] (.fork 9 (.fork 10 (.done) (.stop)) (.stop))))) (.stop))))))))] }
def fc70 : FCfg := { par := [.cst false, .cst false], inn := [(11, some ([2, 3, 8, 9, 10, 27, 28], [2, 3, 8, 10])), (15, some ([2, 3, 8, 9, 10, 27, 28], [2, 3, 8, 10])), (20, some ([2, 3, 8, 9, 12, 14, 15, 16, 27, 28, 53, 54, 55], [2, 3, 8, 10, 15])), (23, some ([2, 3, 8, 9, 12, 27, 28], [2, 3, 8])), (26, some ([8], [8]))], out := [(9, some ([2, 3, 8, 9, 10, 27, 28, 32], [2, 3, 8, 10])), (10, some ([2, 3, 8, 9, 10, 27, 28], [2, 3, 8, 10]))], loopK := [(7, ([2, 3, 8, 9, 27, 28], [2, 3, 8])), (12, ([2, 3, 8, 9, 10, 11, 27, 28], [2, 3, 8, 10])), (17, ([2, 3, 8, 9, 12, 27, 28, 53, 54, 55], [2, 3, 8, 10]))], frz := [9], sch := [(10, .first 0 [7, 8] [1, 2, 3, 4, 5, 6] (.first 1 [2, 3, 5, 6, 7, 8] [4] (.first 2 [3, 5, 6, 7, 8] [4] (.first 3 [5, 6, 7, 8] [4] (.first 4 [5, 6, 7, 8] [] (.fork 5 (.fork 6 (.fork 7 (.fork 8 (.done) (.stop)) (.stop)) (.stop)) (.stop)))))))] }
def fc71 : FCfg := { par := [.cst false, .cst false, .cst false], inn := [], out := [], loopK := [], frz := [], sch := [] }
def fc72 : FCfg := { par := [.cst false, .cst false, .cst false], inn := [(8, some ([4, 9, 11, 12], [4, 9, 12])), (11, some ([4, 11, 12, 14, 32, 33, 34], [4, 9, 12, 14])), (13, some ([4, 11, 12, 32, 33, 34], [4, 9, 12])), (14, some ([11], []))], out := [], loopK := [(9, ([4, 11, 12, 32, 33, 34], [4, 9, 12]))], frz := [30, 31], sch := [] }
def fc73 : FCfg := { par := [.cst false, .cst false, .cst false], inn := [], out := [], loopK := [], frz := [], sch := [] }
def fc74 : FCfg := { par := [.cst false], inn := [], out := [], loopK := [], frz := [], sch := [] }
def fc85 : FCfg := { par := [.cst false], inn := [], out := [], loopK := [], frz := [], sch := [] }
def fc87 : FCfg := { par := [.ptr [.imm, .imm, .imm]], inn := [(2, some ([0], [0])), (3, some ([0], [0]))], out := [], loopK := [], frz := [], sch := [] }
def fc92 : FCfg := { par := [.cst false, .cst false, .cst false], inn := [], out := [(1, some ([6], []))], loopK := [], frz := [], sch := [] }
def fc99 : FCfg := { par := [.ptr [.imm, .imm, .imm], .cst false], inn := [], out := [], loopK := [], frz := [], sch := [] }
def fc102 : FCfg := { par := [.cst false, .cst false, .cst false], inn := [], out := [(1, some ([6], []))], loopK := [], frz := [], sch := [] }
def fc156 : FCfg := { par := [.ptr [.imm, .imm, .imm]], inn := [(2, some ([0, 2, 3], [0, 2, 3])), (3, some ([0, 2, 3], [0, 2, 3])), (4, some ([0, 2, 3, 13], [0, 2, 3])), (8, some ([2, 3], [0, 2, 3]))], out := [], loopK := [], frz := [], sch := [] }
def fc157 : FCfg := { par := [.ptr [.imm, .imm, .imm]], inn := [(2, some ([0, 2, 3], [0, 2, 3])), (3, some ([0, 2, 3], [0, 2, 3])), (4, some ([0, 2, 3], [0, 2, 3])), (5, some ([0, 2, 3, 23], [0, 2, 3])), (13, some ([2, 3], [0, 2, 3]))], out := [], loopK := [], frz := [], sch := [] }
def fc158 : FCfg := { par := [.cst false, .cst false], inn := [], out := [], loopK := [], frz := [], sch := [] }
def fc159 : FCfg := { par := [.ptr [.imm, .imm, .imm, .imm, .imm, .imm, .imm, .imm, .imm, .imm, .sh, .imm], .mv, .cst false, .cst false], inn := [(3, some ([], [0])), (6, some ([0, 1, 2, 3, 9], [0, 1])), (12, some ([0, 1, 2, 3, 9, 10, 12], [0, 1, 10])), (16, some ([0, 1, 2, 3, 9, 10, 12], [0, 1, 10])), (17, some ([], [0])), (18, some ([], [0]))], out := [(7, some ([0, 1, 2, 3, 9, 10, 11], [0, 1, 10])), (10, some ([0, 1, 2, 3, 9, 10, 12, 71], [0, 1, 10])), (11, some ([0, 1, 2, 3, 9, 10, 12], [0, 1, 10])), (12, some ([0, 1, 2, 3, 9, 10, 12, 94], [0, 1, 10]))], loopK := [(5, ([0, 1, 2, 3, 9], [0, 1]))], frz := [], sch := [(7, .first 0 [1, 2, 3, 10, 11, 12, 13, 15, 16] [4, 5, 6, 7, 8, 9, 14] (.first 1 [2, 3, 10, 11, 12, 13, 15, 16] [4, 5, 6, 7, 8, 9, 14] (.first 2 [3, 10, 11, 12, 13, 15, 16] [4, 5, 6, 7, 8, 9, 14] (.first 3 [10, 11, 12, 13, 15, 16] [4, 5, 6, 7, 8, 9, 14] (.first 4 [5, 6, 7, 10, 11, 12, 13, 15, 16] [8, 9, 14] (.first 5 [6, 7, 10, 11, 12, 13, 15, 16] [8, 9, 14] (.first 6 [7, 10, 11, 12, 13, 15, 16] [8, 9, 14] (.first 7 [10, 11, 12, 13, 15, 16] [8, 9, 14] (.first 8 [10, 11, 12, 13, 15, 16] [9, 14] (.first 9 [10, 11, 12, 13, 15, 16] [14] (.fork 10 (.first 11 [12, 13, 15, 16] [14] (.first 12 [15, 16] [13, 14] (.first 13 [16] [14, 15] (.fork 14 (.fork 15 (.fork 16 (.done) (.stop)) (.stop)) (.stop))))) (.fork 14 (.fork 10 (.first 11 [12, 13, 15, 16] [] (.first 12 [15, 16] [13] (.first 13 [16] [15] (.fork 15 (.fork 16 (.done) (.stop)) (.stop))))) (.stop)) (.stop))))))))))))), (11, .first 0 [10, 11] [1, 2, 3, 4, 5, 6, 7, 8, 9] (.first 1 [2, 3, 9, 10, 11] [4, 5, 6, 7, 8] (.first 2 [3, 9, 10, 11] [4, 5, 6, 7, 8] (.first 3 [9, 10, 11] [4, 5, 6, 7, 8] (.first 4 [9, 10, 11] [5, 6, 7, 8] (.first 5 [6, 7, 8, 9, 10, 11] [] (.first 6 [7, 8, 9, 10, 11] [] (.first 7 [8, 9, 10, 11] [] (.first 8 [9, 10, 11] [] (.fork 9 (.first 10 [11] [] (.fork 11 (.done) (.stop))) (.stop)))))))))))] }
def fc160 : FCfg := { par := [.cst false, .cst false], inn := [], out := [], loopK := [], frz := [], sch := [] }
def fc161 : FCfg := { par := [.cst false, .cst false, .cst false, .cst false], inn := [(2, some ([2, 5, 8, 10, 11], [5, 8, 10]))], out := [(2, some ([8, 9], [8]))], loopK := [], frz := [], sch := [(2, .first 0 [15, 16] [1, 2, 3, 4, 5, 6, 7, 8, 9, 10, 11, 12, 13, 14] (.first 1 [2, 3, 4, 5, 6, 7, 8, 9, 10, 11, 12, 13, 14, 15, 16] [] (.first 2 [3, 4, 5, 6, 7, 8, 9, 10, 11, 12, 13, 14, 15, 16] [] (.first 3 [4, 5, 6, 7, 8, 9, 10, 11, 12, 13, 14, 15, 16] [] (.first 4 [5, 6, 7, 8, 9, 10, 11, 12, 13, 14, 15, 16] [] (.first 5 [6, 7, 8, 9, 10, 11, 12, 13, 14, 15, 16] [] (.first 6 [7, 8, 9, 10, 11, 12, 13, 14, 15, 16] [] (.first 7 [8, 9, 12, 13, 14, 15, 16] [10, 11] (.first 8 [9, 12, 13, 14, 15, 16] [10, 11] (.first 9 [12, 13, 14, 15, 16] [10, 11] (.first 10 [12, 13, 14, 15, 16] [11] (.first 11 [12, 13, 14, 15, 16] [] (.fork 12 (.first 13 [14, 16] [15] (.first 14 [16] [15] (.fork 15 (.fork 16 (.done) (.stop)) (.stop)))) (.stop))))))))))))))] }
def fc162 : FCfg := { par := [.cst false, .cst false], inn := [], out := [(1, some ([12], []))], loopK := [], frz := [], sch := [] }
def fc163 : FCfg := { par := [.cst false, .cst false, .cst false], inn := [(8, some ([3, 4, 8, 9, 11, 12, 20, 21, 22], [3, 4, 8, 11])), (12, some ([8], [8]))], out := [(8, some ([3, 4, 8, 11, 20, 21, 22, 50], [3, 4, 8, 11]))], loopK := [(5, ([3, 4, 8, 20, 21, 22], [3, 4, 8]))], frz := [], sch := [(8, .first 0 [1, 2, 3, 4, 5, 6, 7, 8, 9, 10, 11, 12, 13, 14, 15, 16] [] (.first 1 [2, 3, 4, 5, 6, 7, 8, 9, 10, 11, 12, 13, 14, 15, 16] [] (.first 2 [3, 4, 5, 6, 7, 8, 9, 10, 11, 12, 13, 14, 15, 16] [] (.first 3 [4, 5, 6, 7, 8, 9, 10, 11, 12, 13, 14, 15, 16] [] (.first 4 [5, 6, 7, 8, 9, 10, 11, 12, 13, 14, 15, 16] [] (.first 5 [6, 7, 8, 9, 10, 11, 12, 13, 14, 15, 16] [] (.first 6 [9, 10, 13, 14, 15, 16] [7, 8, 11, 12] (.first 7 [8, 9, 10, 13, 14, 15, 16] [11, 12] (.first 8 [9, 10, 13, 14, 15, 16] [11, 12] (.first 9 [10, 13, 14, 15, 16] [11, 12] (.first 10 [13, 14, 15, 16] [11, 12] (.first 11 [13, 14, 15, 16] [12] (.first 12 [13, 14, 15, 16] [] (.fork 13 (.first 14 [15, 16] [] (.first 15 [16] [] (.first 16 [] [] (.done)))) (.stop)))))))))))))))] }
def fc164 : FCfg := { par := [.cst false, .cst false, .cst false], inn := [(4, some ([7], []))], out := [(2, some ([7, 18], []))], loopK := [], frz := [], sch := [(2, .first 0 [1, 2, 3, 7] [4, 5, 6] (.first 1 [2, 3, 7] [4, 5, 6] (.first 2 [3, 7] [4, 5, 6] (.first 3 [7] [4, 5, 6] (.first 4 [6, 7] [5] (.first 5 [6, 7] [] (.fork 6 (.first 7 [] [] (.done)) (.stop))))))))] }
def fc165 : FCfg := { par := [.cst false, .cst false], inn := [(4, some ([5], []))], out := [], loopK := [], frz := [], sch := [] }
def fc166 : FCfg := { par := [.ptr [.imm, .imm, .imm]], inn := [(2, some ([0, 2, 3, 5], [0, 2, 3, 5])), (3, some ([0, 2, 3, 5, 6], [0, 2, 3, 5, 6])), (6, some ([0, 2, 3, 5, 6, 7], [0, 2, 3, 5, 6, 7])), (8, some ([0, 2, 3, 5, 6, 7, 9], [0, 2, 3, 5, 6, 7])), (9, some ([2, 3, 5, 6, 7], [0, 2, 3, 5, 6, 7]))], out := [(6, some ([0, 2, 3, 5, 6, 7, 31], [0, 2, 3, 5, 6, 7])), (9, some ([2, 3, 4], [0, 2, 3, 4]))], loopK := [], frz := [], sch := [(9, .first 0 [3, 4, 5] [1, 2] (.first 2 [5] [1, 3, 4] (.fork 1 (.fork 3 (.fork 4 (.fork 5 (.done) (.stop)) (.stop)) (.stop)) (.fork 3 (.first 1 [4, 5] [] (.fork 4 (.fork 5 (.done) (.stop)) (.stop))) (.stop)))))] }
def fc172 : FCfg := { par := [.cst false, .cst false], inn := [], out := [], loopK := [], frz := [], sch := [] }
def fc183 : FCfg := { par := [.ptr [.imm, .imm, .imm], .cst false], inn := [], out := [], loopK := [], frz := [], sch := [] }
def fc184 : FCfg := { par := [.ptr [.imm, .imm, .imm], .cst false], inn := [(4, some ([0, 1, 5], [0])), (6, some ([1, 5], [0]))], out := [], loopK := [], frz := [], sch := [] }
def fc208 : FCfg := { par := [.cst false], inn := [], out := [], loopK := [], frz := [], sch := [] }
def fc231 : FCfg := { par := [.cst false, .cst false], inn := [], out := [], loopK := [], frz := [], sch := [] }
def fc232 : FCfg := { par := [.cst false, .cst false, .cst false], inn := [(6, some ([2, 3, 4, 6, 8], [3, 4, 6, 8])), (9, some ([3, 4, 6, 8, 9], [3, 4, 6, 8])), (10, some ([3, 4, 6, 8, 9], [3, 4, 6, 8])), (11, some ([3, 4, 6, 8, 9], [3, 4, 6, 8])), (12, some ([4, 6, 8], [4, 6, 8]))], out := [], loopK := [(7, ([3, 4, 6, 8, 9], [3, 4, 6, 8]))], frz := [], sch := [] }
def fc233 : FCfg := { par := [.cst false, .cst false, .cst false], inn := [(8, some ([], []))], out := [(2, some ([3, 4, 5, 7, 8, 20], [3, 4, 5])), (3, some ([3, 4, 5, 7, 8, 35], [3, 4, 5])), (5, some ([3, 4, 5, 7, 8, 46], [3, 4, 5]))], loopK := [(2, ([3, 4, 5, 7, 8], [3, 4, 5]))], frz := [], sch := [(3, .first 0 [1, 3, 4, 10, 11, 14] [2, 5, 6, 7, 8, 9, 12, 13] (.first 1 [3, 4, 10, 11, 14] [2, 5, 6, 7, 8, 9, 12, 13] (.first 2 [3, 4, 10, 11, 14] [5, 6, 7, 8, 9, 12, 13] (.first 3 [4, 10, 11, 14] [5, 6, 7, 8, 9, 12, 13] (.first 4 [10, 11, 14] [5, 6, 7, 8, 9, 12, 13] (.first 5 [6, 8, 9, 10, 11, 14] [7, 12, 13] (.first 6 [8, 9, 10, 11, 14] [7, 12, 13] (.first 7 [8, 9, 10, 11, 14] [12, 13] (.first 8 [9, 10, 11, 14] [12, 13] (.first 9 [10, 11, 14] [12, 13] (.first 10 [11, 14] [12, 13] (.first 12 [13, 14] [11] (.first 13 [14] [11] (.fork 11 (.first 14 [] [] (.done)) (.stop))))))))))))))), (5, .first 0 [1, 3, 4, 10] [2, 5, 6, 7, 8, 9] (.first 1 [3, 4, 10] [2, 5, 6, 7, 8, 9] (.first 2 [3, 4, 10] [5, 6, 7, 8, 9] (.first 3 [4, 10] [5, 6, 7, 8, 9] (.first 4 [10] [5, 6, 7, 8, 9] (.first 5 [6, 8, 9, 10] [7] (.first 6 [8, 9, 10] [7] (.first 7 [8, 9, 10] [] (.first 8 [9, 10] [] (.first 9 [10] [] (.first 10 [] [] (.done))))))))))))] }
def fc234 : FCfg := { par := [.cst false], inn := [], out := [(1, some ([2], []))], loopK := [], frz := [], sch := [] }
def fc235 : FCfg := { par := [.cst false], inn := [], out := [(1, some ([2], []))], loopK := [], frz := [], sch := [] }
def fc236 : FCfg := { par := [.cst false, .cst false], inn := [(16, some ([2, 3, 6, 7, 8, 9, 10], [2, 3, 7, 8])), (18, some ([2, 3, 6, 7, 8, 9, 10, 14], [2, 3, 7, 8])), (22, some ([2, 3, 6, 7, 9, 10], [2, 3, 7])), (26, some ([7], [7]))], out := [(14, some ([2, 3, 6, 7, 8, 9, 10, 11, 40], [2, 3, 7, 8])), (17, some ([2, 3, 6, 7, 8, 9, 10, 14, 51], [2, 3, 7, 8])), (20, some ([2, 3, 6, 7, 8, 9, 10, 14, 65], [2, 3, 7, 8]))], loopK := [(9, ([2, 3, 6, 7, 8, 9], [2, 3, 7, 8])), (17, ([2, 3, 6, 7, 8, 9, 10, 14], [2, 3, 7, 8]))], frz := [], sch := [] }
def fc237 : FCfg := { par := [.ptr [.imm, .imm, .imm], .cst false], inn := [(2, some ([0, 1], [0])), (3, some ([0, 1], [0]))], out := [(2, some ([4], [0])), (3, some ([4], [0]))], loopK := [], frz := [], sch := [(2, .first 0 [20, 21] [1, 2, 3, 4, 5, 6, 7, 8, 9, 10, 11, 12, 13, 14, 15, 16, 17, 18, 19] (.first 1 [2, 3, 4, 5, 19, 20, 21] [6, 7, 8, 9, 10, 11, 12, 13, 14, 15, 16, 17, 18] (.first 2 [3, 4, 5, 19, 20, 21] [6, 7, 8, 9, 10, 11, 12, 13, 14, 15, 16, 17, 18] (.first 3 [4, 5, 19, 20, 21] [6, 7, 8, 9, 10, 11, 12, 13, 14, 15, 16, 17, 18] (.first 4 [5, 19, 20, 21] [6, 7, 8, 9, 10, 11, 12, 13, 14, 15, 16, 17, 18] (.first 5 [19, 20, 21] [6, 7, 8, 9, 10, 11, 12, 13, 14, 15, 16, 17, 18] (.first 6 [7, 8, 9, 19, 20, 21] [10, 11, 12, 13, 14, 15, 16, 17, 18] (.first 7 [8, 9, 19, 20, 21] [10, 11, 12, 13, 14, 15, 16, 17, 18] (.first 8 [9, 19, 20, 21] [10, 11, 12, 13, 14, 15, 16, 17, 18] (.first 9 [19, 20, 21] [10, 11, 12, 13, 14, 15, 16, 17, 18] (.first 10 [11, 12, 13, 19, 20, 21] [14, 15, 16, 17, 18] (.first 11 [12, 13, 19, 20, 21] [14, 15, 16, 17, 18] (.first 12 [13, 19, 20, 21] [14, 15, 16, 17, 18] (.first 13 [19, 20, 21] [14, 15, 16, 17, 18] (.first 14 [15, 16, 17, 18, 19, 20, 21] [] (.first 15 [16, 17, 18, 19, 20, 21] [] (.first 16 [17, 18, 19, 20, 21] [] (.first 17 [18, 19, 20, 21] [] (.first 18 [19, 20, 21] [] (.fork 19 (.fork 20 (.fork 21 (.done) (.stop)) (.stop)) (.stop))))))))))))))))))))), (3, .first 0 [1, 2, 3, 11, 12] [4, 5, 6, 7, 8, 9, 10] (.first 1 [2, 3, 11, 12] [4, 5, 6, 7, 8, 9, 10] (.first 2 [3, 11, 12] [4, 5, 6, 7, 8, 9, 10] (.first 3 [11, 12] [4, 5, 6, 7, 8, 9, 10] (.first 4 [10, 11, 12] [5, 6, 7, 8, 9] (.first 5 [6, 7, 8, 9, 10, 11, 12] [] (.first 6 [7, 8, 9, 10, 11, 12] [] (.first 7 [8, 9, 10, 11, 12] [] (.first 8 [9, 10, 11, 12] [] (.fork 9 (.fork 10 (.first 11 [12] [] (.fork 12 (.done) (.stop))) (.stop)) (.stop)))))))))))] }
def fc248 : FCfg := { par := [.ptr [.imm, .imm, .imm]], inn := [(4, some ([0, 3], [0])), (5, some ([0, 3], [0])), (6, some ([0, 3], [0]))], out := [(2, some ([0, 3, 13], [0])), (3, some ([0, 3], [0])), (6, some ([0, 3, 53], [0]))], loopK := [], frz := [], sch := [(2, .first 0 [1, 2, 3, 9] [4, 5, 6, 7, 8] (.first 1 [2, 3, 9] [4, 5, 6, 7, 8] (.first 2 [3, 9] [4, 5, 6, 7, 8] (.first 3 [9] [4, 5, 6, 7, 8] (.first 4 [5, 6, 7, 8, 9] [] (.first 5 [6, 7, 8, 9] [] (.first 6 [7, 8, 9] [] (.first 7 [8, 9] [] (.first 8 [9] [] (.first 9 [] [] (.done))))))))))), (3, .first 0 [1, 2, 3, 8, 9, 10, 11] [4, 5, 6, 7] (.first 1 [2, 3, 8, 9, 10, 11] [4, 5, 6, 7] (.first 2 [3, 8, 9, 10, 11] [4, 5, 6, 7] (.first 3 [8, 9, 10, 11] [4, 5, 6, 7] (.first 4 [5, 6, 7, 8, 9, 10, 11] [] (.first 5 [6, 7, 8, 9, 10, 11] [] (.first 6 [7, 8, 9, 10, 11] [] (.first 7 [8, 9, 10, 11] [] (.first 8 [9, 10, 11] [] (.first 9 [10, 11] [] (.fork 10 (.fork 11 (.done) (.stop)) (.stop)))))))))))), (6, .first 0 [1, 2, 3, 9] [4, 5, 6, 7, 8] (.first 1 [2, 3, 9] [4, 5, 6, 7, 8] (.first 2 [3, 9] [4, 5, 6, 7, 8] (.first 3 [9] [4, 5, 6, 7, 8] (.first 4 [5, 6, 7, 8, 9] [] (.first 5 [6, 7, 8, 9] [] (.first 6 [7, 8, 9] [] (.first 7 [8, 9] [] (.first 8 [9] [] (.first 9 [] [] (.done)))))))))))] }
def fc258 : FCfg := { par := [.cst false, .cst false], inn := [], out := [], loopK := [], frz := [], sch := [] }
def fc267 : FCfg := { par := [.cst false, .cst false], inn := [], out := [(1, some ([4], []))], loopK := [], frz := [], sch := [] }
def fc268 : FCfg := { par := [.cst false, .cst false], inn := [], out := [(1, some ([4], []))], loopK := [], frz := [], sch := [(1, .first 0 [1, 2, 3, 8, 9] [4, 5, 6, 7] (.first 1 [2, 3, 8, 9] [4, 5, 6, 7] (.first 2 [3, 8, 9] [4, 5, 6, 7] (.first 3 [8, 9] [4, 5, 6, 7] (.first 4 [5, 6, 7, 8, 9] [] (.first 5 [6, 7, 8, 9] [] (.first 6 [7, 8, 9] [] (.first 7 [8, 9] [] (.fork 8 (.fork 9 (.done) (.stop)) (.stop))))))))))] }
def fc269 : FCfg := { par := [.cst false, .cst false], inn := [], out := [(3, some ([4], []))], loopK := [], frz := [], sch := [(3, .first 0 [1, 2, 3, 10, 11] [4, 5, 6, 7, 8, 9] (.first 1 [2, 3, 10, 11] [4, 5, 6, 7, 8, 9] (.first 2 [3, 10, 11] [4, 5, 6, 7, 8, 9] (.first 3 [10, 11] [4, 5, 6, 7, 8, 9] (.first 4 [8, 9, 10, 11] [5, 6, 7] (.first 5 [6, 7, 8, 9, 10, 11] [] (.first 6 [7, 8, 9, 10, 11] [] (.first 7 [8, 9, 10, 11] [] (.first 8 [9, 10, 11] [] (.first 9 [10, 11] [] (.first 10 [11] [] (.fork 11 (.done) (.stop)))))))))))))] }
def fc270 : FCfg := { par := [.cst false, .cst false, .cst false], inn := [(10, some ([1, 8, 9], [8]))], out := [(1, some ([0, 1, 2, 20], []))], loopK := [(7, ([1, 8, 9], [8]))], frz := [], sch := [(1, .first 0 [9, 10] [1, 2, 3, 4, 5, 6, 7, 8] (.first 1 [2, 3, 4, 9, 10] [5, 6, 7, 8] (.first 2 [3, 4, 9, 10] [5, 6, 7, 8] (.first 3 [4, 9, 10] [5, 6, 7, 8] (.first 4 [9, 10] [5, 6, 7, 8] (.first 5 [6, 7, 8, 9, 10] [] (.first 6 [7, 8, 9, 10] [] (.first 7 [8, 9, 10] [] (.first 8 [9, 10] [] (.fork 9 (.first 10 [] [] (.done)) (.stop)))))))))))] }
def fc271 : FCfg := { par := [.cst false, .cst false, .cst false], inn := [(11, some ([], []))], out := [(5, some ([0, 7, 8, 9, 10, 24], [7, 8])), (6, some ([0, 7, 8, 9, 10, 48], [7, 8])), (8, some ([0, 7, 8, 9, 10, 57], [7, 8]))], loopK := [(5, ([0, 7, 8, 9, 10], [7, 8]))], frz := [], sch := [(6, .first 0 [2, 3, 8, 18, 23] [1, 4, 5, 6, 7, 9, 10, 11, 12, 13, 14, 15, 16, 17, 19, 20, 21, 22] (.first 1 [2, 3, 8, 18, 23] [4, 5, 6, 7, 9, 10, 11, 12, 13, 14, 15, 16, 17, 19, 20, 21, 22] (.first 2 [3, 8, 18, 23] [4, 5, 6, 7, 9, 10, 11, 12, 13, 14, 15, 16, 17, 19, 20, 21, 22] (.first 3 [8, 18, 23] [4, 5, 6, 7, 9, 10, 11, 12, 13, 14, 15, 16, 17, 19, 20, 21, 22] (.first 4 [6, 7, 8, 18, 23] [5, 9, 10, 11, 12, 13, 14, 15, 16, 17, 19, 20, 21, 22] (.first 5 [6, 7, 8, 18, 23] [9, 10, 11, 12, 13, 14, 15, 16, 17, 19, 20, 21, 22] (.first 6 [7, 8, 18, 23] [9, 10, 11, 12, 13, 14, 15, 16, 17, 19, 20, 21, 22] (.first 7 [8, 18, 23] [9, 10, 11, 12, 13, 14, 15, 16, 17, 19, 20, 21, 22] (.first 8 [18, 23] [9, 10, 11, 12, 13, 14, 15, 16, 17, 19, 20, 21, 22] (.first 9 [11, 12, 17, 18, 23] [10, 13, 14, 15, 16, 19, 20, 21, 22] (.first 10 [11, 12, 17, 18, 23] [13, 14, 15, 16, 19, 20, 21, 22] (.first 11 [12, 17, 18, 23] [13, 14, 15, 16, 19, 20, 21, 22] (.first 12 [17, 18, 23] [13, 14, 15, 16, 19, 20, 21, 22] (.first 13 [15, 16, 17, 18, 23] [14, 19, 20, 21, 22] (.first 14 [15, 16, 17, 18, 23] [19, 20, 21, 22] (.first 15 [16, 17, 18, 23] [19, 20, 21, 22] (.first 16 [17, 18, 23] [19, 20, 21, 22] (.first 17 [18, 23] [19, 20, 21, 22] (.first 19 [20, 21, 22, 23] [18] (.first 20 [21, 22, 23] [18] (.first 21 [22, 23] [18] (.first 22 [23] [18] (.fork 18 (.first 23 [] [] (.done)) (.stop)))))))))))))))))))))))), (8, .first 0 [2, 3, 8] [1, 4, 5, 6, 7] (.first 1 [2, 3, 8] [4, 5, 6, 7] (.first 2 [3, 8] [4, 5, 6, 7] (.first 3 [8] [4, 5, 6, 7] (.first 4 [6, 7, 8] [5] (.first 5 [6, 7, 8] [] (.first 6 [7, 8] [] (.first 7 [8] [] (.first 8 [] [] (.done))))))))))] }
def fc280 : FCfg := { par := [.cst false], inn := [], out := [(1, some ([2], []))], loopK := [], frz := [], sch := [] }
def fc281 : FCfg := { par := [.cst false], inn := [], out := [(1, some ([2], []))], loopK := [], frz := [], sch := [(1, .first 0 [1, 2, 3, 4, 5, 6, 7, 8, 9, 10, 11, 12, 13, 14, 15, 16, 17, 18, 19, 20, 21, 22, 23, 24, 25, 26, 27, 28, 29, 30, 31, 32, 33, 34, 35] [] (.first 1 [2, 3, 4, 5, 6, 7, 8, 9, 10, 11, 12, 13, 14, 15, 16, 17, 18, 19, 20, 21, 22, 23, 24, 25, 26, 27, 28, 29, 30, 31, 32, 33, 34, 35] [] (.first 2 [3, 4, 5, 6, 7, 8, 9, 10, 11, 12, 13, 14, 15, 16, 17, 18, 19, 20, 21, 22, 23, 24, 25, 26, 27, 28, 29, 30, 31, 32, 33, 34, 35] [] (.first 3 [4, 5, 6, 7, 8, 9, 10, 11, 12, 13, 14, 15, 16, 17, 18, 19, 20, 21, 22, 23, 24, 25, 26, 27, 28, 29, 30, 31, 32, 33, 34, 35] [] (.fork 4 (.first 5 [6, 7, 8, 9, 10, 11, 12, 13, 14, 15, 16, 17, 18, 19, 20, 21, 22, 23, 24, 25, 26, 27, 28, 29, 30, 31, 32, 33, 34, 35] [] (.first 6 [7, 8, 9, 10, 11, 12, 13, 14, 15, 16, 17, 18, 19, 20, 21, 22, 23, 24, 25, 26, 27, 28, 29, 30, 31, 32, 33, 34, 35] [] (.first 7 [8, 9, 10, 11, 12, 13, 14, 15, 16, 17, 18, 19, 20, 21, 22, 23, 24, 25, 26, 27, 28, 29, 30, 31, 32, 33, 34, 35] [] (.first 8 [9, 10, 11, 12, 13, 14, 15, 16, 17, 18, 19, 20, 21, 22, 23, 24, 25, 26, 27, 28, 29, 30, 31, 32, 33, 34, 35] [] (.first 9 [10, 11, 12, 13, 14, 15, 16, 17, 18, 19, 20, 21, 22, 23, 24, 25, 26, 27, 28, 29, 30, 31, 32, 33, 34, 35] [] (.fork 10 (.first 11 [12, 13, 14, 15, 16, 17, 18, 19, 20, 21, 22, 23, 24, 25, 26, 27, 28, 29, 30, 31, 32, 33, 34, 35] [] (.first 12 [13, 14, 15, 16, 17, 18, 19, 20, 21, 22, 23, 24, 25, 26, 27, 28, 29, 30, 31, 32, 33, 34, 35] [] (.first 13 [14, 15, 16, 21, 22, 23, 24, 25, 26, 27, 28, 29, 30, 31, 32, 33, 34, 35] [17, 18, 19, 20] (.first 14 [15, 16, 21, 22, 23, 24, 25, 26, 27, 28, 29, 30, 31, 32, 33, 34, 35] [17, 18, 19, 20] (.first 15 [16, 21, 22, 23, 24, 25, 26, 27, 28, 29, 30, 31, 32, 33, 34, 35] [17, 18, 19, 20] (.first 16 [21, 22, 23, 24, 25, 26, 27, 28, 29, 30, 31, 32, 33, 34, 35] [17, 18, 19, 20] (.first 17 [18, 19, 20, 21, 22, 23, 24, 25, 26, 27, 28, 29, 30, 31, 32, 33, 34, 35] [] (.first 18 [19, 20, 21, 22, 23, 24, 25, 26, 27, 28, 29, 30, 31, 32, 33, 34, 35] [] (.first 19 [20, 21, 22, 23, 24, 25, 26, 27, 28, 29, 30, 31, 32, 33, 34, 35] [] (.first 20 [21, 22, 23, 24, 25, 26, 27, 28, 29, 30, 31, 32, 33, 34, 35] [] (.fork 21 (.first 22 [23, 24, 25, 26, 27, 28, 29, 30, 31, 32, 33, 34, 35] [] (.first 23 [24, 25, 26, 27, 28, 29, 30, 31, 32, 33, 34, 35] [] (.first 24 [25, 26, 27, 33, 34, 35] [28, 29, 30, 31, 32] (.first 25 [26, 27, 33, 34, 35] [28, 29, 30, 31, 32] (.first 26 [27, 33, 34, 35] [28, 29, 30, 31, 32] (.first 27 [33, 34, 35] [28, 29, 30, 31, 32] (.first 28 [29, 30, 31, 32, 33, 34, 35] [] (.first 29 [30, 31, 32, 33, 34, 35] [] (.first 30 [31, 32, 33, 34, 35] [] (.first 31 [32, 33, 34, 35] [] (.first 32 [33, 34, 35] [] (.fork 33 (.first 34 [35] [] (.fork 35 (.done) (.stop))) (.stop))))))))))))) (.stop)))))))))))) (.stop))))))) (.stop))))))] }
def fc282 : FCfg := { par := [.cst false, .cst false], inn := [], out := [], loopK := [], frz := [], sch := [] }
def fc283 : FCfg := { par := [.cst false], inn := [(8, some ([3], [3]))], out := [], loopK := [(4, ([0, 3, 4, 5], [3]))], frz := [], sch := [] }
def fcs : List (Nat × FCfg) := [(11, fc11), (14, fc14), (68, fc68), (69, fc69), (70, fc70), (71, fc71), (72, fc72), (73, fc73), (74, fc74), (85, fc85), (87, fc87), (92, fc92), (99, fc99), (102, fc102), (156, fc156), (157, fc157), (158, fc158), (159, fc159), (160, fc160), (161, fc161), (162, fc162), (163, fc163), (164, fc164), (165, fc165), (166, fc166), (172, fc172), (183, fc183), (184, fc184), (208, fc208), (231, fc231), (232, fc232), (233, fc233), (234, fc234), (235, fc235), (236, fc236), (237, fc237), (248, fc248), (258, fc258), (267, fc267), (268, fc268), (269, fc269), (270, fc270), (271, fc271), (280, fc280), (281, fc281), (282, fc282), (283, fc283)]
def ons : List (Nat × Bool) := [(11, true), (14, true), (68, true), (69, true), (70, true), (71, true), (72, true), (73, true), (74, true), (85, true), (87, true), (92, true), (99, true), (102, true), (156, true), (157, true), (158, true), (159, true), (160, true), (161, true), (162, true), (163, true), (164, true), (165, true), (166, true), (172, true), (183, true), (184, true), (208, true), (231, true), (232, true), (233, true), (234, true), (235, true), (236, true), (237, true), (248, true), (258, true), (267, true), (268, true), (269, true), (270, true), (271, true), (280, true), (281, true), (282, true), (283, true)]
def cfg : Cfg := mkCfg ons fcs [(187, some (extCloneN 1 8))]
theorem c11 : cfg.fc 11 = fc11 := rfl
theorem z11 : (cfg.fc 11).frz = [] := rfl
theorem c14 : cfg.fc 14 = fc14 := rfl
theorem z14 : (cfg.fc 14).frz = [] := rfl
theorem c68 : cfg.fc 68 = fc68 := rfl
theorem z68 : (cfg.fc 68).frz = [] := rfl
theorem c69 : cfg.fc 69 = fc69 := rfl
theorem z69 : (cfg.fc 69).frz = [] := rfl
theorem c70 : cfg.fc 70 = fc70 := rfl
theorem z70 : (cfg.fc 70).frz = [9] := rfl
theorem c71 : cfg.fc 71 = fc71 := rfl
theorem z71 : (cfg.fc 71).frz = [] := rfl
theorem c72 : cfg.fc 72 = fc72 := rfl
theorem z72 : (cfg.fc 72).frz = [30, 31] := rfl
theorem c73 : cfg.fc 73 = fc73 := rfl
theorem z73 : (cfg.fc 73).frz = [] := rfl
theorem c74 : cfg.fc 74 = fc74 := rfl
theorem z74 : (cfg.fc 74).frz = [] := rfl
theorem c85 : cfg.fc 85 = fc85 := rfl
theorem z85 : (cfg.fc 85).frz = [] := rfl
theorem c87 : cfg.fc 87 = fc87 := rfl
theorem z87 : (cfg.fc 87).frz = [] := rfl
theorem c92 : cfg.fc 92 = fc92 := rfl
theorem z92 : (cfg.fc 92).frz = [] := rfl
theorem c99 : cfg.fc 99 = fc99 := rfl
theorem z99 : (cfg.fc 99).frz = [] := rfl
theorem c102 : cfg.fc 102 = fc102 := rfl
theorem z102 : (cfg.fc 102).frz = [] := rfl
theorem c156 : cfg.fc 156 = fc156 := rfl
theorem z156 : (cfg.fc 156).frz = [] := rfl
theorem c157 : cfg.fc 157 = fc157 := rfl
theorem z157 : (cfg.fc 157).frz = [] := rfl
theorem c158 : cfg.fc 158 = fc158 := rfl
theorem z158 : (cfg.fc 158).frz = [] := rfl
theorem c159 : cfg.fc 159 = fc159 := rfl
theorem z159 : (cfg.fc 159).frz = [] := rfl
theorem c160 : cfg.fc 160 = fc160 := rfl
theorem z160 : (cfg.fc 160).frz = [] := rfl
theorem c161 : cfg.fc 161 = fc161 := rfl
theorem z161 : (cfg.fc 161).frz = [] := rfl
theorem c162 : cfg.fc 162 = fc162 := rfl
theorem z162 : (cfg.fc 162).frz = [] := rfl
theorem c163 : cfg.fc 163 = fc163 := rfl
theorem z163 : (cfg.fc 163).frz = [] := rfl
theorem c164 : cfg.fc 164 = fc164 := rfl
theorem z164 : (cfg.fc 164).frz = [] := rfl
theorem c165 : cfg.fc 165 = fc165 := rfl
theorem z165 : (cfg.fc 165).frz = [] := rfl
theorem c166 : cfg.fc 166 = fc166 := rfl
theorem z166 : (cfg.fc 166).frz = [] := rfl
theorem c172 : cfg.fc 172 = fc172 := rfl
theorem z172 : (cfg.fc 172).frz = [] := rfl
theorem c183 : cfg.fc 183 = fc183 := rfl
theorem z183 : (cfg.fc 183).frz = [] := rfl
theorem c184 : cfg.fc 184 = fc184 := rfl
theorem z184 : (cfg.fc 184).frz = [] := rfl
theorem c208 : cfg.fc 208 = fc208 := rfl
theorem z208 : (cfg.fc 208).frz = [] := rfl
theorem c231 : cfg.fc 231 = fc231 := rfl
theorem z231 : (cfg.fc 231).frz = [] := rfl
theorem c232 : cfg.fc 232 = fc232 := rfl
theorem z232 : (cfg.fc 232).frz = [] := rfl
theorem c233 : cfg.fc 233 = fc233 := rfl
theorem z233 : (cfg.fc 233).frz = [] := rfl
theorem c234 : cfg.fc 234 = fc234 := rfl
theorem z234 : (cfg.fc 234).frz = [] := rfl
theorem c235 : cfg.fc 235 = fc235 := rfl
theorem z235 : (cfg.fc 235).frz = [] := rfl
theorem c236 : cfg.fc 236 = fc236 := rfl
theorem z236 : (cfg.fc 236).frz = [] := rfl
theorem c237 : cfg.fc 237 = fc237 := rfl
theorem z237 : (cfg.fc 237).frz = [] := rfl
theorem c248 : cfg.fc 248 = fc248 := rfl
theorem z248 : (cfg.fc 248).frz = [] := rfl
theorem c258 : cfg.fc 258 = fc258 := rfl
theorem z258 : (cfg.fc 258).frz = [] := rfl
theorem c267 : cfg.fc 267 = fc267 := rfl
theorem z267 : (cfg.fc 267).frz = [] := rfl
theorem c268 : cfg.fc 268 = fc268 := rfl
theorem z268 : (cfg.fc 268).frz = [] := rfl
theorem c269 : cfg.fc 269 = fc269 := rfl
theorem z269 : (cfg.fc 269).frz = [] := rfl
theorem c270 : cfg.fc 270 = fc270 := rfl
theorem z270 : (cfg.fc 270).frz = [] := rfl
theorem c271 : cfg.fc 271 = fc271 := rfl
theorem z271 : (cfg.fc 271).frz = [] := rfl
theorem c280 : cfg.fc 280 = fc280 := rfl
theorem z280 : (cfg.fc 280).frz = [] := rfl
theorem c281 : cfg.fc 281 = fc281 := rfl
theorem z281 : (cfg.fc 281).frz = [] := rfl
theorem c282 : cfg.fc 282 = fc282 := rfl
theorem z282 : (cfg.fc 282).frz = [] := rfl
theorem c283 : cfg.fc 283 = fc283 := rfl
theorem z283 : (cfg.fc 283).frz = [] := rfl
theorem bF101 : buildF Try.prog 101 = some ([.im 0 (.sc (.int .i64 0)), .im 0 (.sc (.int .i64 0)), .im 0 (.sc (.int .i64 0)), .im 0 (.sc (.int .i64 0))], [(0, 1), (1, 1), (2, 1), (3, 1)]) := by kernel_rfl
theorem bF250 : buildF Try.prog 250 = some ([.im 0 (.sc (.int .i64 0)), .im 0 (.sc (.int .i64 0)), .im 0 (.sc (.int .i64 0)), .im 0 (.sc (.int .i64 0)), .im 0 (.sc (.int .i64 0)), .im 0 (.sc (.int .i64 0)), .im 0 (.sc (.int .i64 0)), .im 0 (.sc (.int .i64 0)), .im 0 (.sc (.int .i64 0)), .im 0 (.sc (.bool false)), .nil, .im 0 (.sc (.int .i64 0))], [(0, 2), (2, 4), (6, 1), (7, 1), (8, 1), (9, 1), (10, 1), (11, 1)]) := by kernel_rfl
theorem bF255 : buildF Try.prog 255 = some ([.nil, .nil, .im 0 (.sc (.int .i64 0))], [(0, 1), (1, 1), (2, 1)]) := by kernel_rfl
theorem bF283 : buildF Try.prog 283 = some ([.nil, .im 0 (.sc (.int .i64 0)), .im 0 (.sc (.int .u64 0))], [(0, 1), (1, 1), (2, 1)]) := by kernel_rfl
theorem bF99 : buildF Try.prog 99 = some ([.im 0 (.sc (.int .i64 0)), .im 0 (.sc (.int .i64 0))], [(0, 1), (1, 1)]) := by kernel_rfl
theorem eF259 : elemSz Try.prog 259 = some (255, 3) := by kernel_rfl
theorem eF27 : elemSz Try.prog 27 = some (2, 1) := by kernel_rfl
theorem fF101_0 : fieldF Try.prog 101 0 = some 0 := by kernel_rfl
theorem fF101_1 : fieldF Try.prog 101 1 = some 1 := by kernel_rfl
theorem fF101_2 : fieldF Try.prog 101 2 = some 2 := by kernel_rfl
theorem fF101_3 : fieldF Try.prog 101 3 = some 3 := by kernel_rfl
theorem fF250_0 : fieldF Try.prog 250 0 = some 0 := by kernel_rfl
theorem fF250_1 : fieldF Try.prog 250 1 = some 2 := by kernel_rfl
theorem fF250_2 : fieldF Try.prog 250 2 = some 6 := by kernel_rfl
theorem fF250_3 : fieldF Try.prog 250 3 = some 7 := by kernel_rfl
theorem fF250_4 : fieldF Try.prog 250 4 = some 8 := by kernel_rfl
theorem fF250_5 : fieldF Try.prog 250 5 = some 9 := by kernel_rfl
theorem fF250_6 : fieldF Try.prog 250 6 = some 10 := by kernel_rfl
theorem fF250_7 : fieldF Try.prog 250 7 = some 11 := by kernel_rfl
theorem fF255_0 : fieldF Try.prog 255 0 = some 0 := by kernel_rfl
theorem fF255_1 : fieldF Try.prog 255 1 = some 1 := by kernel_rfl
theorem fF255_2 : fieldF Try.prog 255 2 = some 2 := by kernel_rfl
theorem fF283_0 : fieldF Try.prog 283 0 = some 0 := by kernel_rfl
theorem fF283_1 : fieldF Try.prog 283 1 = some 1 := by kernel_rfl
theorem fF283_2 : fieldF Try.prog 283 2 = some 2 := by kernel_rfl
theorem fF99_0 : fieldF Try.prog 99 0 = some 0 := by kernel_rfl
theorem fF99_1 : fieldF Try.prog 99 1 = some 1 := by kernel_rfl
theorem kF102_2_2_2 : callK Try.prog cfg 102 0 [2, 2, 2] = [(.cst false, [none]), (.cst false, [none]), (.cst false, [none])] := by kernel_rfl
theorem kF14_22 : callK Try.prog cfg 14 0 [22] = [(.cst false, [some 1])] := by kernel_rfl
theorem kF156_121 : callK Try.prog cfg 156 0 [121] = [(.ptr [.imm, .imm, .imm], [none])] := by kernel_rfl
theorem kF157_121 : callK Try.prog cfg 157 0 [121] = [(.ptr [.imm, .imm, .imm], [none])] := by kernel_rfl
theorem kF158_99_101 : callK Try.prog cfg 158 0 [99, 101] = [(.cst false, [none, none]), (.cst false, [none, none, none, none])] := by kernel_rfl
theorem kF159_248_27_252_2 : callK Try.prog cfg 159 0 [248, 27, 252, 2] = [(.ptr [.imm, .imm, .imm, .imm, .imm, .imm, .imm, .imm, .imm, .imm, .sh, .imm], [none]), (.mv, [some 1]), (.cst false, [none]), (.cst false, [none])] := by kernel_rfl
theorem kF160_252_101 : callK Try.prog cfg 160 0 [252, 101] = [(.cst false, [none]), (.cst false, [none, none, none, none])] := by kernel_rfl
theorem kF160_255_101 : callK Try.prog cfg 160 0 [255, 101] = [(.cst false, [some 1, some 1, none]), (.cst false, [none, none, none, none])] := by kernel_rfl
theorem kF161_99_101_252_2 : callK Try.prog cfg 161 0 [99, 101, 252, 2] = [(.cst false, [none, none]), (.cst false, [none, none, none, none]), (.cst false, [none]), (.cst false, [none])] := by kernel_rfl
theorem kF162_99_101 : callK Try.prog cfg 162 0 [99, 101] = [(.cst false, [none, none]), (.cst false, [none, none, none, none])] := by kernel_rfl
theorem kF163_99_101_27 : callK Try.prog cfg 163 0 [99, 101, 27] = [(.cst false, [none, none]), (.cst false, [none, none, none, none]), (.cst false, [some 1])] := by kernel_rfl
theorem kF164_255_255_101 : callK Try.prog cfg 164 0 [255, 255, 101] = [(.cst false, [some 1, some 1, none]), (.cst false, [some 1, some 1, none]), (.cst false, [none, none, none, none])] := by kernel_rfl
theorem kF165_2_2 : callK Try.prog cfg 165 0 [2, 2] = [(.cst false, [none]), (.cst false, [none])] := by kernel_rfl
theorem kF166_121 : callK Try.prog cfg 166 0 [121] = [(.ptr [.imm, .imm, .imm], [none])] := by kernel_rfl
theorem kF172_2_2 : callK Try.prog cfg 172 0 [2, 2] = [(.cst false, [none]), (.cst false, [none])] := by kernel_rfl
theorem kF183_121_2 : callK Try.prog cfg 183 0 [121, 2] = [(.ptr [.imm, .imm, .imm], [none]), (.cst false, [none])] := by kernel_rfl
theorem kF184_121_2 : callK Try.prog cfg 184 0 [121, 2] = [(.ptr [.imm, .imm, .imm], [none]), (.cst false, [none])] := by kernel_rfl
theorem kF187_27 : callK Try.prog cfg 187 0 [27] = [(.cst false, [some 1])] := by kernel_rfl
theorem kF208_2 : callK Try.prog cfg 208 0 [2] = [(.cst false, [none])] := by kernel_rfl
theorem kF231_99_101 : callK Try.prog cfg 231 0 [99, 101] = [(.cst false, [none, none]), (.cst false, [none, none, none, none])] := by kernel_rfl
theorem kF232_99_101_2 : callK Try.prog cfg 232 0 [99, 101, 2] = [(.cst false, [none, none]), (.cst false, [none, none, none, none]), (.cst false, [none])] := by kernel_rfl
theorem kF233_255_255_101 : callK Try.prog cfg 233 0 [255, 255, 101] = [(.cst false, [some 1, some 1, none]), (.cst false, [some 1, some 1, none]), (.cst false, [none, none, none, none])] := by kernel_rfl
theorem kF234_99 : callK Try.prog cfg 234 0 [99] = [(.cst false, [none, none])] := by kernel_rfl
theorem kF235_101 : callK Try.prog cfg 235 0 [101] = [(.cst false, [none, none, none, none])] := by kernel_rfl
theorem kF236_99_101 : callK Try.prog cfg 236 0 [99, 101] = [(.cst false, [none, none]), (.cst false, [none, none, none, none])] := by kernel_rfl
theorem kF237_121_330 : callK Try.prog cfg 237 0 [121, 330] = [(.ptr [.imm, .imm, .imm], [none]), (.cst false, [none])] := by kernel_rfl
theorem kF248_121 : callK Try.prog cfg 248 0 [121] = [(.ptr [.imm, .imm, .imm], [none])] := by kernel_rfl
theorem kF258_2_2 : callK Try.prog cfg 258 0 [2, 2] = [(.cst false, [none]), (.cst false, [none])] := by kernel_rfl
theorem kF267_354_330 : callK Try.prog cfg 267 0 [354, 330] = [(.cst false, [none]), (.cst false, [none])] := by kernel_rfl
theorem kF268_354_330 : callK Try.prog cfg 268 0 [354, 330] = [(.cst false, [none]), (.cst false, [none])] := by kernel_rfl
theorem kF269_330_27 : callK Try.prog cfg 269 0 [330, 27] = [(.cst false, [none]), (.cst false, [some 1])] := by kernel_rfl
theorem kF270_354_330_2 : callK Try.prog cfg 270 0 [354, 330, 2] = [(.cst false, [none]), (.cst false, [none]), (.cst false, [none])] := by kernel_rfl
theorem kF271_330_27_27 : callK Try.prog cfg 271 0 [330, 27, 27] = [(.cst false, [none]), (.cst false, [some 1]), (.cst false, [some 1])] := by kernel_rfl
theorem kF280_354 : callK Try.prog cfg 280 0 [354] = [(.cst false, [none])] := by kernel_rfl
theorem kF281_330 : callK Try.prog cfg 281 0 [330] = [(.cst false, [none])] := by kernel_rfl
theorem kF282_2_2 : callK Try.prog cfg 282 0 [2, 2] = [(.cst false, [none]), (.cst false, [none])] := by kernel_rfl
theorem kF283_27 : callK Try.prog cfg 283 0 [27] = [(.cst false, [some 1])] := by kernel_rfl
theorem kF68_22 : callK Try.prog cfg 68 0 [22] = [(.cst false, [some 1])] := by kernel_rfl
theorem kF69_99_101_2_2 : callK Try.prog cfg 69 0 [99, 101, 2, 2] = [(.cst false, [none, none]), (.cst false, [none, none, none, none]), (.cst false, [none]), (.cst false, [none])] := by kernel_rfl
theorem kF70_99_101 : callK Try.prog cfg 70 0 [99, 101] = [(.cst false, [none, none]), (.cst false, [none, none, none, none])] := by kernel_rfl
theorem kF71_99_101_27 : callK Try.prog cfg 71 0 [99, 101, 27] = [(.cst false, [none, none]), (.cst false, [none, none, none, none]), (.cst false, [some 1])] := by kernel_rfl
theorem kF72_99_101_27 : callK Try.prog cfg 72 0 [99, 101, 27] = [(.cst false, [none, none]), (.cst false, [none, none, none, none]), (.cst false, [some 1])] := by kernel_rfl
theorem kF73_99_101_27 : callK Try.prog cfg 73 0 [99, 101, 27] = [(.cst false, [none, none]), (.cst false, [none, none, none, none]), (.cst false, [some 1])] := by kernel_rfl
theorem kF74_22 : callK Try.prog cfg 74 0 [22] = [(.cst false, [some 1])] := by kernel_rfl
theorem kF85_22 : callK Try.prog cfg 85 0 [22] = [(.cst false, [some 1])] := by kernel_rfl
theorem kF87_121 : callK Try.prog cfg 87 0 [121] = [(.ptr [.imm, .imm, .imm], [none])] := by kernel_rfl
theorem kF92_2_2_2 : callK Try.prog cfg 92 0 [2, 2, 2] = [(.cst false, [none]), (.cst false, [none]), (.cst false, [none])] := by kernel_rfl
theorem kF99_121_27 : callK Try.prog cfg 99 0 [121, 27] = [(.ptr [.imm, .imm, .imm], [none]), (.cst false, [some 1])] := by kernel_rfl
theorem rF102 : resK Try.prog (Try.f102.results.toList.zip Try.f102.resultTypes.toList) = [(.tmp 6, [none], none)] := by kernel_rfl
theorem rF11 : resK Try.prog (Try.f11.results.toList.zip Try.f11.resultTypes.toList) = [(.tmp 4, [none], none)] := by kernel_rfl
theorem rF14 : resK Try.prog (Try.f14.results.toList.zip Try.f14.resultTypes.toList) = [(.tmp 2, [none], none)] := by kernel_rfl
theorem rF156 : resK Try.prog (Try.f156.results.toList.zip Try.f156.resultTypes.toList) = [(.cell 2 99, [none, none], some (true, 2))] := by kernel_rfl
theorem rF157 : resK Try.prog (Try.f157.results.toList.zip Try.f157.resultTypes.toList) = [(.cell 2 101, [none, none, none, none], some (true, 4))] := by kernel_rfl
theorem rF158 : resK Try.prog (Try.f158.results.toList.zip Try.f158.resultTypes.toList) = [(.tmp 4, [none], none), (.tmp 5, [none], none)] := by kernel_rfl
theorem rF159 : resK Try.prog (Try.f159.results.toList.zip Try.f159.resultTypes.toList) = [(.tmp 8, [none], none)] := by kernel_rfl
theorem rF160 : resK Try.prog (Try.f160.results.toList.zip Try.f160.resultTypes.toList) = [(.tmp 4, [none], none)] := by kernel_rfl
theorem rF161 : resK Try.prog (Try.f161.results.toList.zip Try.f161.resultTypes.toList) = [(.cell 8 255, [some 1, some 1, none], some (true, 3)), (.tmp 9, [none], none)] := by kernel_rfl
theorem rF162 : resK Try.prog (Try.f162.results.toList.zip Try.f162.resultTypes.toList) = [(.tmp 4, [none], none)] := by kernel_rfl
theorem rF163 : resK Try.prog (Try.f163.results.toList.zip Try.f163.resultTypes.toList) = [(.tmp 6, [some 3], none), (.tmp 7, [none], none)] := by kernel_rfl
theorem rF164 : resK Try.prog (Try.f164.results.toList.zip Try.f164.resultTypes.toList) = [(.tmp 6, [none], none)] := by kernel_rfl
theorem rF165 : resK Try.prog (Try.f165.results.toList.zip Try.f165.resultTypes.toList) = [(.tmp 4, [none], none)] := by kernel_rfl
theorem rF166 : resK Try.prog (Try.f166.results.toList.zip Try.f166.resultTypes.toList) = [(.cell 2 99, [none, none], some (true, 2)), (.cell 3 101, [none, none, none, none], some (true, 4)), (.tmp 4, [some 1], none)] := by kernel_rfl
theorem rF172 : resK Try.prog (Try.f172.results.toList.zip Try.f172.resultTypes.toList) = [(.tmp 4, [none], none)] := by kernel_rfl
theorem rF183 : resK Try.prog (Try.f183.results.toList.zip Try.f183.resultTypes.toList) = [(.tmp 4, [none], none)] := by kernel_rfl
theorem rF184 : resK Try.prog (Try.f184.results.toList.zip Try.f184.resultTypes.toList) = [(.tmp 4, [none], none)] := by kernel_rfl
theorem rF187 : resK Try.prog (Try.f187.results.toList.zip Try.f187.resultTypes.toList) = [(.tmp 2, [some 1], none)] := by kernel_rfl
theorem rF208 : resK Try.prog (Try.f208.results.toList.zip Try.f208.resultTypes.toList) = [(.tmp 2, [none], none)] := by kernel_rfl
theorem rF231 : resK Try.prog (Try.f231.results.toList.zip Try.f231.resultTypes.toList) = [(.tmp 4, [none], none)] := by kernel_rfl
theorem rF232 : resK Try.prog (Try.f232.results.toList.zip Try.f232.resultTypes.toList) = [(.cell 6 255, [some 1, some 1, none], some (true, 3)), (.tmp 7, [none], none)] := by kernel_rfl
theorem rF233 : resK Try.prog (Try.f233.results.toList.zip Try.f233.resultTypes.toList) = [(.tmp 6, [none], none)] := by kernel_rfl
theorem rF234 : resK Try.prog (Try.f234.results.toList.zip Try.f234.resultTypes.toList) = [(.tmp 2, [none], none)] := by kernel_rfl
theorem rF235 : resK Try.prog (Try.f235.results.toList.zip Try.f235.resultTypes.toList) = [(.tmp 2, [none], none)] := by kernel_rfl
theorem rF236 : resK Try.prog (Try.f236.results.toList.zip Try.f236.resultTypes.toList) = [(.tmp 4, [some 1], none), (.tmp 5, [none], none)] := by kernel_rfl
theorem rF237 : resK Try.prog (Try.f237.results.toList.zip Try.f237.resultTypes.toList) = [(.tmp 4, [none], none)] := by kernel_rfl
theorem rF248 : resK Try.prog (Try.f248.results.toList.zip Try.f248.resultTypes.toList) = [(.tmp 2, [none], none)] := by kernel_rfl
theorem rF258 : resK Try.prog (Try.f258.results.toList.zip Try.f258.resultTypes.toList) = [(.tmp 4, [none], none)] := by kernel_rfl
theorem rF267 : resK Try.prog (Try.f267.results.toList.zip Try.f267.resultTypes.toList) = [(.tmp 4, [none], none)] := by kernel_rfl
theorem rF268 : resK Try.prog (Try.f268.results.toList.zip Try.f268.resultTypes.toList) = [(.tmp 4, [none], none)] := by kernel_rfl
theorem rF269 : resK Try.prog (Try.f269.results.toList.zip Try.f269.resultTypes.toList) = [(.tmp 4, [none], none)] := by kernel_rfl
theorem rF270 : resK Try.prog (Try.f270.results.toList.zip Try.f270.resultTypes.toList) = [(.tmp 6, [some 1], none), (.tmp 7, [none], none)] := by kernel_rfl
theorem rF271 : resK Try.prog (Try.f271.results.toList.zip Try.f271.resultTypes.toList) = [(.tmp 6, [none], none)] := by kernel_rfl
theorem rF280 : resK Try.prog (Try.f280.results.toList.zip Try.f280.resultTypes.toList) = [(.tmp 2, [none], none)] := by kernel_rfl
theorem rF281 : resK Try.prog (Try.f281.results.toList.zip Try.f281.resultTypes.toList) = [(.tmp 2, [none], none)] := by kernel_rfl
theorem rF282 : resK Try.prog (Try.f282.results.toList.zip Try.f282.resultTypes.toList) = [(.tmp 4, [none], none)] := by kernel_rfl
theorem rF283 : resK Try.prog (Try.f283.results.toList.zip Try.f283.resultTypes.toList) = [(.tmp 2, [some 1], none)] := by kernel_rfl
theorem rF68 : resK Try.prog (Try.f68.results.toList.zip Try.f68.resultTypes.toList) = [(.cell 2 99, [none, none], some (true, 2)), (.cell 3 101, [none, none, none, none], some (true, 4)), (.tmp 4, [none], none), (.tmp 5, [none], none)] := by kernel_rfl
theorem rF69 : resK Try.prog (Try.f69.results.toList.zip Try.f69.resultTypes.toList) = [(.tmp 8, [some 1], none), (.tmp 9, [none], none), (.tmp 10, [none], none)] := by kernel_rfl
theorem rF70 : resK Try.prog (Try.f70.results.toList.zip Try.f70.resultTypes.toList) = [(.tmp 4, [some 1], none), (.tmp 5, [none], none)] := by kernel_rfl
theorem rF71 : resK Try.prog (Try.f71.results.toList.zip Try.f71.resultTypes.toList) = [(.tmp 6, [none], none)] := by kernel_rfl
theorem rF72 : resK Try.prog (Try.f72.results.toList.zip Try.f72.resultTypes.toList) = [(.tmp 6, [none], none), (.tmp 7, [none], none)] := by kernel_rfl
theorem rF73 : resK Try.prog (Try.f73.results.toList.zip Try.f73.resultTypes.toList) = [(.tmp 6, [none], none), (.tmp 7, [none], none)] := by kernel_rfl
theorem rF74 : resK Try.prog (Try.f74.results.toList.zip Try.f74.resultTypes.toList) = [(.cell 2 99, [none, none], some (true, 2)), (.cell 3 101, [none, none, none, none], some (true, 4)), (.tmp 4, [some 1], none)] := by kernel_rfl
theorem rF85 : resK Try.prog (Try.f85.results.toList.zip Try.f85.resultTypes.toList) = [(.tmp 2, [none], none)] := by kernel_rfl
theorem rF87 : resK Try.prog (Try.f87.results.toList.zip Try.f87.resultTypes.toList) = [(.tmp 2, [none], none)] := by kernel_rfl
theorem rF92 : resK Try.prog (Try.f92.results.toList.zip Try.f92.resultTypes.toList) = [(.tmp 6, [none], none)] := by kernel_rfl
theorem rF99 : resK Try.prog (Try.f99.results.toList.zip Try.f99.resultTypes.toList) = [(.tmp 4, [none], none)] := by kernel_rfl
theorem sF22 : sliceF Try.prog 22 = some (5, 1, [none], false, 1, [.im 0 (.sc (.int .u8 0))]) := by kernel_rfl
theorem sF259 : sliceF Try.prog 259 = some (255, 3, [some 1, some 1, none], true, 56, [.nil, .nil, .im 0 (.sc (.int .i64 0))]) := by kernel_rfl
theorem sF27 : sliceF Try.prog 27 = some (2, 1, [none], false, 8, [.im 0 (.sc (.int .i64 0))]) := by kernel_rfl
theorem tF101 : tyF Try.prog 101 = some ([.im 0 (.sc (.int .i64 0)), .im 0 (.sc (.int .i64 0)), .im 0 (.sc (.int .i64 0)), .im 0 (.sc (.int .i64 0))], [none, none, none, none], true, 4) := by kernel_rfl
theorem tF2 : tyF Try.prog 2 = some ([.im 0 (.sc (.int .i64 0))], [none], false, 1) := by kernel_rfl
theorem tF22 : tyF Try.prog 22 = some ([.nil], [some 1], false, 1) := by kernel_rfl
theorem tF250 : tyF Try.prog 250 = some ([.im 0 (.sc (.int .i64 0)), .im 0 (.sc (.int .i64 0)), .im 0 (.sc (.int .i64 0)), .im 0 (.sc (.int .i64 0)), .im 0 (.sc (.int .i64 0)), .im 0 (.sc (.int .i64 0)), .im 0 (.sc (.int .i64 0)), .im 0 (.sc (.int .i64 0)), .im 0 (.sc (.int .i64 0)), .im 0 (.sc (.bool false)), .nil, .im 0 (.sc (.int .i64 0))], [none, none, none, none, none, none, none, none, none, none, some 1, none], true, 12) := by kernel_rfl
theorem tF255 : tyF Try.prog 255 = some ([.nil, .nil, .im 0 (.sc (.int .i64 0))], [some 1, some 1, none], true, 3) := by kernel_rfl
theorem tF27 : tyF Try.prog 27 = some ([.nil], [some 1], false, 1) := by kernel_rfl
theorem tF281 : tyF Try.prog 281 = some ([.im 0 (.sc (.int .u64 0))], [none], false, 1) := by kernel_rfl
theorem tF283 : tyF Try.prog 283 = some ([.nil, .im 0 (.sc (.int .i64 0)), .im 0 (.sc (.int .u64 0))], [some 1, none, none], true, 3) := by kernel_rfl
theorem tF3 : tyF Try.prog 3 = some ([.im 0 (.sc (.int .i64 0))], [none], false, 1) := by kernel_rfl
theorem tF4 : tyF Try.prog 4 = some ([.im 0 (.sc (.bool false))], [none], false, 1) := by kernel_rfl
theorem tF5 : tyF Try.prog 5 = some ([.im 0 (.sc (.int .u8 0))], [none], false, 1) := by kernel_rfl
theorem tF99 : tyF Try.prog 99 = some ([.im 0 (.sc (.int .i64 0)), .im 0 (.sc (.int .i64 0))], [none, none], true, 2) := by kernel_rfl
theorem uF2 : Try.prog.underlying 2 = some (.int .i64) := by kernel_rfl
theorem uF22 : Try.prog.underlying 22 = some (.slice 5) := by kernel_rfl
theorem uF252 : Try.prog.underlying 252 = some (.pointer 255) := by kernel_rfl
theorem uF259 : Try.prog.underlying 259 = some (.slice 255) := by kernel_rfl
theorem uF27 : Try.prog.underlying 27 = some (.slice 2) := by kernel_rfl
theorem uF281 : Try.prog.underlying 281 = some (.int .u64) := by kernel_rfl
theorem uF3 : Try.prog.underlying 3 = some (.int .i64) := by kernel_rfl
theorem uF4 : Try.prog.underlying 4 = some .bool := by kernel_rfl
theorem uF5 : Try.prog.underlying 5 = some (.int .u8) := by kernel_rfl

theorem sgTn {P : Program} {cfg : Cfg} {C : CallF} {f nt d : Nat} {ops : Array Oper} {l : List Oper} {st st1 X : St} {op : Op} {ty : TypeId} {pos : String} {aft : Array Edge} {fz : List Nat} (hz : (cfg.fc f).frz = fz) (hd : fz.any (·.beq d) = false) {j t dj : Nat} {want v : Bool} (hj : (ops[j]?).bind (·.dst) = some dj) (hb : st.sl dj = .v false [.im t (.sc (.bool v))]) (hv : v = want)
    (h : evOp P cfg C nt ⟨some d, op, ty, pos, aft, some (j, want)⟩ st = some st1) (hr : evL P cfg f nt C ops l st1 = some X) : evL P cfg f nt C ops (⟨some d, op, ty, pos, aft, some (j, want)⟩ :: l) st = some X := by
  have hy : yields ops st j = some (some want) := by
    unfold yields
    rw [hj]
    simp only [hb, SV.bool?, hv, Option.map_some]
  simp only [evL, hy, Option.bind_some, if_true, h, Option.map_some, hz, hd, cond]
  exact hr

theorem L_laws_b10Long {code_0 : (List Int)} {r : Bool} (h : laws_b10Long code_0 = some r) : FL Try.prog cfg 14 [.im 2 false [.row 1 (List.map (eK .u8) code_0)]] = some ([(false, [.im 0 (.sc (.bool r))])], []) := by
  unfold laws_b10Long at h
  refine FL_goS (A := [(0, .v false [.im 2 (.row 1 (List.map (eK .u8) code_0))])]) (B := [(0, none)]) (nt := 6) rfl rfl Try.func14 rfl rfl rfl rfl ?_
  refine Go.seq ?_
  refine Go.r0 c14 rfl rfl (sq z14 (oAsI rfl rfl) <| nl) ?_
  refine Unw.seq ?_
  refine Go.seq ?_
  refine Go.r0 c14 rfl rfl (sq z14 (oMv rfl rfl) <| sq z14 (oLnI rfl rfl uF22 rfl) <| sq z14 (oBi rfl rfl rfl rfl) <| sq z14 (oAsI rfl rfl) <| nl) ?_
  refine Unw.seq ?_
  refine Go.ret (Unw.ret ?_)
  cases h
  exact Fin_ret (fin_of rfl rF14 rfl (by kernel_rfl))
theorem L_spec_l00From {code_0 : (List Int)} {r : S_l00Src} (h : spec_l00From code_0 = some r) : FL Try.prog cfg 85 [.im 2 false [.row 1 (List.map (eK .u8) code_0)]] = some ([(false, [.pt true [⟨.imm, 2, .row 1 (List.map (eK .u8) r.code)⟩, ⟨.imm, 0, .sc (.int .i64 r.at_)⟩, ⟨.imm, 0, .sc (.int .u64 r.seed)⟩]])], []) := by
  unfold spec_l00From at h
  refine FL_goS (A := [(0, .v false [.im 2 (.row 1 (List.map (eK .u8) code_0))])]) (B := [(0, none)]) (nt := 6) rfl rfl Try.func85 rfl rfl rfl rfl ?_
  refine Go.seq ?_
  refine Go.r0 c85 rfl rfl (sq z85 (oAsI rfl rfl) <| nl) ?_
  refine Unw.seq ?_
  refine Go.seq ?_
  refine Go.r0 c85 rfl rfl (sq z85 (oMv rfl rfl) <| sq z85 (oBu (cs := [.im 2 _, .im 0 _, .im 0 _]) rfl bF283 rfl) <| sq z85 (oBx rfl tF283 rfl (tkI (tkI (tkI tk0)))) <| sq z85 (oAsP rfl rfl) <| nl) ?_
  refine Unw.seq ?_
  refine Go.ret (Unw.ret ?_)
  cases h
  exact Fin_ret (fin_of rfl rF85 rfl (by kernel_rfl))
theorem L_spec_l00Src_next {s_0 : S_l00Src} {r : (Int × S_l00Src)} (h : spec_l00Src_next s_0 = some r) : FL Try.prog cfg 248 [.ptr true [(.imm, .row 1 (List.map (eK .u8) s_0.code)), (.imm, .sc (.int .i64 s_0.at_)), (.imm, .sc (.int .u64 s_0.seed))]] = some ([(false, [.im 0 (.sc (.int .i64 r.1))])], [.ptr true [(.imm, .row 1 (List.map (eK .u8) r.2.code)), (.imm, .sc (.int .i64 r.2.at_)), (.imm, .sc (.int .u64 r.2.seed))]]) := by
  unfold spec_l00Src_next at h
  refine FL_goS (A := [(0, .v false [.mp 0 0 0])]) (B := [(0, some ⟨0, 0, true, true, false, true, [⟨.imm, 0, 1, .row 1 (List.map (eK .u8) s_0.code)⟩, ⟨.imm, 0, 0, .sc (.int .i64 s_0.at_)⟩, ⟨.imm, 0, 0, .sc (.int .u64 s_0.seed)⟩]⟩)]) (nt := 62) rfl rfl Try.func248 rfl rfl rfl rfl ?_
  refine Go.seq ?_
  refine Go.r0 c248 rfl rfl (sq z248 (oAsI rfl rfl) <| nl) ?_
  refine Unw.seq ?_
  refine Go.seq ?_
  refine Go.r0 c248 rfl rfl (sq z248 (oAsI rfl rfl) <| nl) ?_
  refine Unw.seq ?_
  refine Go.seq ?_
  refine Go.seq ?_
  refine Go.dr c248 rfl rfl rfl rfl (mk [(0, .v false [.mp 0 0 0]), (3, iv 0), (13, bv (decide (s_0.at_ < (s_0.code.length : Int))))] [(0, some ⟨0, 0, true, true, false, true, [⟨.imm, 0, 1, .row 1 (List.map (eK .u8) s_0.code)⟩, ⟨.imm, 0, 0, .sc (.int .i64 s_0.at_)⟩, ⟨.imm, 0, 0, .sc (.int .u64 s_0.seed)⟩]⟩)]) (sT rfl (dN z248 rfl (oMv rfl rfl)) <| sT rfl (dN z248 rfl (oNl rfl rfl rfl)) <| sT rfl (dN z248 rfl (oFA (r' := .mp 0 0 1) rfl fF283_1 rfl rfl)) <| sT rfl (dN z248 rfl (oLd (cs := [.im 0 _]) rfl tF3 rfl rfl)) <| sT rfl (dN z248 rfl (oMv rfl rfl)) <| sT rfl (dN z248 rfl (oNl rfl rfl rfl)) <| sT rfl (dN z248 rfl (oFA (r' := .mp 0 0 0) rfl fF283_0 rfl rfl)) <| sT rfl (dN z248 rfl (oLd (cs := [.im 1 _]) rfl tF22 rfl rfl)) <| sT rfl (dN z248 rfl (oLnI rfl rfl uF22 rfl)) <| sT rfl (dN z248 rfl (oBi rfl rfl rfl rfl)) <| sD (by kernel_rfl)) ?_
  refine Unw.seq ?_
  refine Go.join (fun st => ∃ b_3_r4, spec_l00Src_next_k4 s_0 b_3_r4 = some r ∧ st.norm ([0, 3], [0]) = mk [(0, .v false [.mp 0 0 0]), (3, iv b_3_r4)] [(0, some ⟨0, 0, true, true, false, true, [⟨.imm, 0, 1, .row 1 (List.map (eK .u8) s_0.code)⟩, ⟨.imm, 0, 0, .sc (.int .i64 s_0.at_)⟩, ⟨.imm, 0, 0, .sc (.int .u64 s_0.seed)⟩]⟩)]) ?_ ?_
  · rintro st ⟨b_3_r4, h, hst⟩
    unfold spec_l00Src_next_k4 at h
    refine Unw.seq ?_
    refine Go.seq ?_
    refine Go.r1 c248 rfl rfl hst (sq z248 (oMv rfl rfl) <| sq z248 (oNl rfl rfl rfl) <| sq z248 (oFA (r' := .mp 0 0 1) rfl fF283_1 rfl rfl) <| sq z248 (oLd (cs := [.im 0 _]) rfl tF3 rfl rfl) <| sq z248 (oBi rfl rfl rfl rfl) <| sq z248 (oNl rfl rfl rfl) <| sq z248 (oFA (r' := .mp 0 0 1) rfl fF283_1 rfl rfl) <| sq z248 (oSt tF3 rfl rfl rfl (tkI tk0) rfl rfl rfl) <| nl) ?_
    refine Unw.seq ?_
    refine Go.seq ?_
    refine Go.r1 c248 rfl rfl (st1 := mk [(0, .v false [.mp 0 0 0]), (3, iv b_3_r4)] [(0, some ⟨0, 0, true, true, false, true, [⟨.imm, 0, 1, .row 1 (List.map (eK .u8) s_0.code)⟩, ⟨.imm, 0, 0, .sc (.int .i64 (w64 (s_0.at_ + 1)))⟩, ⟨.imm, 0, 0, .sc (.int .u64 s_0.seed)⟩]⟩)]) (by kernel_rfl) (sq z248 (oMv rfl rfl) <| sq z248 (oMv rfl rfl) <| sq z248 (oNl rfl rfl rfl) <| sq z248 (oFA (r' := .mp 0 0 2) rfl fF283_2 rfl rfl) <| sq z248 (oLd (cs := [.im 0 _]) rfl tF281 rfl rfl) <| sq z248 (oBi rfl rfl rfl rfl) <| sq z248 (oMv rfl rfl) <| sq z248 (oCvI rfl uF3 uF281 rfl) <| sq z248 (oBi rfl rfl rfl rfl) <| sq z248 (oBi rfl rfl rfl rfl) <| sq z248 (oNl rfl rfl rfl) <| sq z248 (oFA (r' := .mp 0 0 2) rfl fF283_2 rfl rfl) <| sq z248 (oSt tF281 rfl rfl rfl (tkI tk0) rfl rfl rfl) <| nl) ?_
    refine Unw.seq ?_
    refine Go.seq ?_
    refine Go.seq ?_
    refine Go.dr c248 rfl rfl rfl (st1 := mk [(0, .v false [.mp 0 0 0]), (3, iv b_3_r4)] [(0, some ⟨0, 0, true, true, false, true, [⟨.imm, 0, 1, .row 1 (List.map (eK .u8) s_0.code)⟩, ⟨.imm, 0, 0, .sc (.int .i64 (w64 (s_0.at_ + 1)))⟩, ⟨.imm, 0, 0, .sc (.int .u64 (IntKind.wrap .u64 ((IntKind.wrap .u64 ((IntKind.wrap .u64 (s_0.seed * 6364136223846793005)) + (IntKind.wrap .u64 (b_3_r4)))) + 1442695040888963407)))⟩]⟩)]) (by kernel_rfl) (mk [(0, .v false [.mp 0 0 0]), (3, iv b_3_r4), (53, bv (decide ((w64 (s_0.at_ + 1)) ≤ (s_0.code.length : Int))))] [(0, some ⟨0, 0, true, true, false, true, [⟨.imm, 0, 1, .row 1 (List.map (eK .u8) s_0.code)⟩, ⟨.imm, 0, 0, .sc (.int .i64 (w64 (s_0.at_ + 1)))⟩, ⟨.imm, 0, 0, .sc (.int .u64 (IntKind.wrap .u64 ((IntKind.wrap .u64 ((IntKind.wrap .u64 (s_0.seed * 6364136223846793005)) + (IntKind.wrap .u64 (b_3_r4)))) + 1442695040888963407)))⟩]⟩)]) (sT rfl (dN z248 rfl (oMv rfl rfl)) <| sT rfl (dN z248 rfl (oNl rfl rfl rfl)) <| sT rfl (dN z248 rfl (oFA (r' := .mp 0 0 1) rfl fF283_1 rfl rfl)) <| sT rfl (dN z248 rfl (oLd (cs := [.im 0 _]) rfl tF3 rfl rfl)) <| sT rfl (dN z248 rfl (oMv rfl rfl)) <| sT rfl (dN z248 rfl (oNl rfl rfl rfl)) <| sT rfl (dN z248 rfl (oFA (r' := .mp 0 0 0) rfl fF283_0 rfl rfl)) <| sT rfl (dN z248 rfl (oLd (cs := [.im 1 _]) rfl tF22 rfl rfl)) <| sT rfl (dN z248 rfl (oLnI rfl rfl uF22 rfl)) <| sT rfl (dN z248 rfl (oBi rfl rfl rfl rfl)) <| sD (by kernel_rfl)) ?_
    refine Unw.seq ?_
    by_cases hc2 : (w64 (s_0.at_ + 1)) ≤ (s_0.code.length : Int)
    · rw [if_pos hc2] at h
      refine Go.condT rfl (iDec.2 hc2) ?_
      refine Go.seq ?_
      refine Go.r0 c248 rfl rfl (sq z248 (oMv rfl rfl) <| sq z248 (oAsI rfl rfl) <| nl) ?_
      refine Unw.seq ?_
      refine Go.ret (Unw.ret ?_)
      cases h
      exact Fin_ret (fin_of rfl rF248 rfl (by kernel_rfl))
    · rw [if_neg hc2] at h
      refine Go.condF rfl (byF iDec hc2) ?_
      refine Go.skip ?_
      refine Unw.seq ?_
      refine Go.seq ?_
      obtain ⟨x59, hx59, h⟩ := bs h
      refine Go.r0 c248 rfl rfl (sq z248 (oMv rfl rfl) <| sq z248 (oNl rfl rfl rfl) <| sq z248 (oFA (r' := .mp 0 0 2) rfl fF283_2 rfl rfl) <| sq z248 (oLd (cs := [.im 0 _]) rfl tF281 rfl rfl) <| sq z248 (oShr rfl hx59 rfl rfl) <| sq z248 (oBi rfl rfl rfl rfl) <| sq z248 (oCvI rfl uF281 uF2 rfl) <| sq z248 (oAsI rfl rfl) <| nl) ?_
      refine Unw.seq ?_
      refine Go.ret (Unw.ret ?_)
      cases h
      exact Fin_ret (fin_of rfl rF248 rfl (by kernel_rfl))
  · intro K3
    by_cases hc4 : s_0.at_ < (s_0.code.length : Int)
    · rw [if_pos hc4] at h
      refine Go.condT rfl (iDec.2 hc4) ?_
      obtain ⟨x22, hx22, h⟩ := bs h
      refine Go.dr c248 rfl rfl rfl rfl (mk [(0, .v false [.mp 0 0 0]), (3, iv (w64 (x22)))] [(0, some ⟨0, 0, true, true, false, true, [⟨.imm, 0, 1, .row 1 (List.map (eK .u8) s_0.code)⟩, ⟨.imm, 0, 0, .sc (.int .i64 s_0.at_)⟩, ⟨.imm, 0, 0, .sc (.int .u64 s_0.seed)⟩]⟩)]) (sT rfl (dN z248 rfl (oMv rfl rfl)) <| sT rfl (dN z248 rfl (oNl rfl rfl rfl)) <| sT rfl (dN z248 rfl (oFA (r' := .mp 0 0 0) rfl fF283_0 rfl rfl)) <| sT rfl (dN z248 rfl (oLd (cs := [.im 1 _]) rfl tF22 rfl rfl)) <| sT rfl (dN z248 rfl (oMv rfl rfl)) <| sT rfl (dN z248 rfl (oNl rfl rfl rfl)) <| sT rfl (dN z248 rfl (oFA (r' := .mp 0 0 1) rfl fF283_1 rfl rfl)) <| sT rfl (dN z248 rfl (oLd (cs := [.im 0 _]) rfl tF3 rfl rfl)) <| sT rfl (dN z248 rfl (oIAI rfl hx22 sF22 rfl rfl)) <| sT rfl (dN z248 rfl (oLd (cs := [.im 1 _]) rfl tF5 rfl rfl)) <| sS (dN z248 rfl (oCvI rfl uF5 uF3 rfl)) trivial (sS (dN z248 rfl (oAsI rfl rfl)) trivial (sD (by kernel_rfl)))) ?_
      exact K3 _ ⟨(w64 (x22)), h, (by kernel_rfl)⟩
    · rw [if_neg hc4] at h
      refine Go.condF rfl (byF iDec hc4) ?_
      refine Go.skip ?_
      exact K3 _ ⟨0, h, (by kernel_rfl)⟩
theorem L_spec_l00Src_pick {s_0 : S_l00Src} {n_1 : Int} {r : (Int × S_l00Src)} (h : spec_l00Src_pick s_0 n_1 = some r) : FL Try.prog cfg 184 [.ptr true [(.imm, .row 1 (List.map (eK .u8) s_0.code)), (.imm, .sc (.int .i64 s_0.at_)), (.imm, .sc (.int .u64 s_0.seed))], .im 2 false [.sc (.int .i64 n_1)]] = some ([(false, [.im 0 (.sc (.int .i64 r.1))])], [.ptr true [(.imm, .row 1 (List.map (eK .u8) r.2.code)), (.imm, .sc (.int .i64 r.2.at_)), (.imm, .sc (.int .u64 r.2.seed))]]) := by
  unfold spec_l00Src_pick at h
  refine FL_goS (A := [(0, .v false [.mp 0 0 0]), (1, .v false [.im 2 (.sc (.int .i64 n_1))])]) (B := [(0, some ⟨0, 0, true, true, false, true, [⟨.imm, 0, 1, .row 1 (List.map (eK .u8) s_0.code)⟩, ⟨.imm, 0, 0, .sc (.int .i64 s_0.at_)⟩, ⟨.imm, 0, 0, .sc (.int .u64 s_0.seed)⟩]⟩), (1, none)]) (nt := 20) rfl rfl Try.func184 rfl rfl rfl rfl ?_
  refine Go.seq ?_
  refine Go.r0 c184 rfl rfl (sq z184 (oAsI rfl rfl) <| nl) ?_
  refine Unw.seq ?_
  refine Go.seq ?_
  refine Go.seq ?_
  refine Go.r0 c184 rfl rfl (sq z184 (oMv rfl rfl) <| sq z184 (oBi rfl rfl rfl rfl) <| nl) ?_
  refine Unw.seq ?_
  by_cases hc1 : n_1 ≤ 1
  · rw [if_pos hc1] at h
    refine Go.condT rfl (iDec.2 hc1) ?_
    refine Go.seq ?_
    refine Go.r0 c184 rfl rfl (sq z184 (oAsI rfl rfl) <| nl) ?_
    refine Unw.seq ?_
    refine Go.ret (Unw.ret ?_)
    cases h
    exact Fin_ret (fin_of rfl rF184 rfl (by kernel_rfl))
  · rw [if_neg hc1] at h
    refine Go.condF rfl (byF iDec hc1) ?_
    refine Go.skip ?_
    refine Unw.seq ?_
    refine Go.seq ?_
    obtain ⟨x9, hx9, h⟩ := bs h
    refine Go.r0 c184 rfl rfl (sq z184 (oMv rfl rfl) <| sq z184 (oCa (xs := [.v false [.mp 0 0 0]]) (vs := [(false, [.im 0 _])]) (v := .v false [.im 0 _]) (L_spec_l00Src_next hx9) (.inl rfl) rfl kF248_121 rfl (ppP rfl rfl rfl pp0) rfl rfl (pbP rfl rfl pb0) rfl rfl rfl) <| sq z184 (oAsI rfl rfl) <| nl) ?_
    refine Unw.seq ?_
    refine Go.seq ?_
    refine Go.seq ?_
    refine Go.r1 c184 rfl rfl (st1 := mk [(0, .v false [.mp 0 0 0]), (1, iv n_1), (5, iv x9.1)] [(0, some ⟨0, 0, true, true, false, true, [⟨.imm, 0, 1, .row 1 (List.map (eK .u8) x9.2.code)⟩, ⟨.imm, 0, 0, .sc (.int .i64 x9.2.at_)⟩, ⟨.imm, 0, 0, .sc (.int .u64 x9.2.seed)⟩]⟩)]) (by kernel_rfl) (sq z184 (oMv rfl rfl) <| sq z184 (oBi rfl rfl rfl rfl) <| nl) ?_
    refine Unw.seq ?_
    refine Go.join (fun st => ∃ x_5_r6, ∃ s_o0_0_r6, ∃ s_o0_1_r6, ∃ s_o0_2_r6, spec_l00Src_pick_k6 n_1 x_5_r6 s_o0_0_r6 s_o0_1_r6 s_o0_2_r6 = some r ∧ st.norm ([1, 5], [0]) = mk [(1, iv n_1), (5, iv x_5_r6)] [(0, some ⟨0, 0, true, true, false, true, [⟨.imm, 0, 1, .row 1 (List.map (eK .u8) s_o0_0_r6)⟩, ⟨.imm, 0, 0, .sc (.int .i64 s_o0_1_r6)⟩, ⟨.imm, 0, 0, .sc (.int .u64 s_o0_2_r6)⟩]⟩)]) ?_ ?_
    · rintro st ⟨x_5_r6, s_o0_0_r6, s_o0_1_r6, s_o0_2_r6, h, hst⟩
      unfold spec_l00Src_pick_k6 at h
      refine Unw.seq ?_
      refine Go.seq ?_
      obtain ⟨x19, hx19, h⟩ := bs h
      refine Go.r1 c184 rfl rfl hst (sq z184 (oMv rfl rfl) <| sq z184 (oMv rfl rfl) <| sq z184 (oRem rfl hx19 rfl rfl) <| sq z184 (oAsI rfl rfl) <| nl) ?_
      refine Unw.seq ?_
      refine Go.ret (Unw.ret ?_)
      cases h
      exact Fin_ret (fin_of rfl rF184 rfl (by kernel_rfl))
    · intro K3
      by_cases hc4 : n_1 > 200
      · rw [if_pos hc4] at h
        refine Go.condT rfl (iDec.2 hc4) ?_
        obtain ⟨x15, hx15, h⟩ := bs h
        refine Go.r0 c184 rfl rfl (sq z184 (oMv rfl rfl) <| sq z184 (oBi rfl rfl rfl rfl) <| sq z184 (oMv rfl rfl) <| sq z184 (oCa (xs := [.v false [.mp 0 0 0]]) (vs := [(false, [.im 0 _])]) (v := .v false [.im 0 _]) (L_spec_l00Src_next hx15) (.inl rfl) rfl kF248_121 rfl (ppP rfl rfl rfl pp0) rfl rfl (pbP rfl rfl pb0) rfl rfl rfl) <| sq z184 (oBi rfl rfl rfl rfl) <| sq z184 (oAsI rfl rfl) <| nl) ?_
        exact K3 _ ⟨(w64 ((w64 (x9.1 * 256)) + x15.1)), x15.2.code, x15.2.at_, x15.2.seed, h, (by kernel_rfl)⟩
      · rw [if_neg hc4] at h
        refine Go.condF rfl (byF iDec hc4) ?_
        refine Go.skip ?_
        exact K3 _ ⟨x9.1, x9.2.code, x9.2.at_, x9.2.seed, h, (by kernel_rfl)⟩
theorem L_spec_l00Src_among {s_0 : S_l00Src} {list_1 : (List Int)} {r : (Int × S_l00Src)} (h : spec_l00Src_among s_0 list_1 = some r) : FL Try.prog cfg 99 [.ptr true [(.imm, .row 1 (List.map (eK .u8) s_0.code)), (.imm, .sc (.int .i64 s_0.at_)), (.imm, .sc (.int .u64 s_0.seed))], .im 2 false [.row 1 (List.map eI list_1)]] = some ([(false, [.im 0 (.sc (.int .i64 r.1))])], [.ptr true [(.imm, .row 1 (List.map (eK .u8) r.2.code)), (.imm, .sc (.int .i64 r.2.at_)), (.imm, .sc (.int .u64 r.2.seed))]]) := by
  unfold spec_l00Src_among at h
  refine FL_goS (A := [(0, .v false [.mp 0 0 0]), (1, .v false [.im 2 (.row 1 (List.map eI list_1))])]) (B := [(0, some ⟨0, 0, true, true, false, true, [⟨.imm, 0, 1, .row 1 (List.map (eK .u8) s_0.code)⟩, ⟨.imm, 0, 0, .sc (.int .i64 s_0.at_)⟩, ⟨.imm, 0, 0, .sc (.int .u64 s_0.seed)⟩]⟩), (1, none)]) (nt := 12) rfl rfl Try.func99 rfl rfl rfl rfl ?_
  refine Go.seq ?_
  refine Go.r0 c99 rfl rfl (sq z99 (oAsI rfl rfl) <| nl) ?_
  refine Unw.seq ?_
  refine Go.seq ?_
  obtain ⟨x9, hx9, h⟩ := bs h
  obtain ⟨x10, hx10, h⟩ := bs h
  refine Go.r0 c99 rfl rfl (sq z99 (oMv rfl rfl) <| sq z99 (oMv rfl rfl) <| sq z99 (oMv rfl rfl) <| sq z99 (oLnI rfl rfl uF27 rfl) <| sq z99 (oCa (xs := [.v false [.mp 0 0 0], .v false [.im 0 _]]) (vs := [(false, [.im 0 _])]) (v := .v false [.im 0 _]) (L_spec_l00Src_pick hx9) (.inl rfl) rfl kF184_121_2 rfl (ppP rfl rfl rfl (ppC rfl pp0)) rfl rfl (pbP rfl rfl pb0) rfl rfl rfl) <| sq z99 (oIAI rfl hx10 sF27 rfl rfl) <| sq z99 (oLd (cs := [.im 2 _]) rfl tF2 rfl rfl) <| sq z99 (oAsI rfl rfl) <| nl) ?_
  refine Unw.seq ?_
  refine Go.ret (Unw.ret ?_)
  cases h
  exact Fin_ret (fin_of rfl rF99 rfl (by kernel_rfl))
theorem L_spec_l30DrawRoom {s_0 : S_l00Src} {r : (S_Room × S_l00Src)} (h : spec_l30DrawRoom s_0 = some r) : FL Try.prog cfg 156 [.ptr true [(.imm, .row 1 (List.map (eK .u8) s_0.code)), (.imm, .sc (.int .i64 s_0.at_)), (.imm, .sc (.int .u64 s_0.seed))]] = some ([(true, [.im 0 (.sc (.int .i64 r.1.Width)), .im 0 (.sc (.int .i64 r.1.Length))])], [.ptr true [(.imm, .row 1 (List.map (eK .u8) r.2.code)), (.imm, .sc (.int .i64 r.2.at_)), (.imm, .sc (.int .u64 r.2.seed))]]) := by
  unfold spec_l30DrawRoom at h
  refine FL_goS (A := [(0, .v false [.mp 0 0 0])]) (B := [(0, some ⟨0, 0, true, true, false, true, [⟨.imm, 0, 1, .row 1 (List.map (eK .u8) s_0.code)⟩, ⟨.imm, 0, 0, .sc (.int .i64 s_0.at_)⟩, ⟨.imm, 0, 0, .sc (.int .u64 s_0.seed)⟩]⟩)]) (nt := 27) rfl rfl Try.func156 rfl rfl rfl rfl ?_
  refine Go.seq ?_
  refine Go.r0 c156 rfl rfl (sq z156 (oAl rfl tF99 (tkI (tkI tk0))) <| nl) ?_
  refine Unw.seq ?_
  refine Go.seq ?_
  obtain ⟨x5, hx5, h⟩ := bs h
  refine Go.r0 c156 rfl rfl (sq z156 (oMv rfl rfl) <| sq z156 (oCa (xs := [.v false [.mp 0 0 0], .v false [.im 0 _]]) (vs := [(false, [.im 0 _])]) (v := .v false [.im 0 _]) (L_spec_l00Src_pick hx5) (.inl rfl) rfl kF184_121_2 rfl (ppP rfl rfl rfl (ppC rfl pp0)) rfl rfl (pbP rfl rfl pb0) rfl rfl rfl) <| sq z156 (oBi rfl rfl rfl rfl) <| sq z156 (oBu (cs := [.im 0 _, .im 0 _]) rfl bF99 rfl) <| sq z156 (oAl rfl tF99 (tkI (tkI tk0))) <| sq z156 (oSt tF99 rfl rfl rfl (tkI (tkI tk0)) rfl rfl rfl) <| nl) ?_
  refine Unw.seq ?_
  refine Go.seq ?_
  obtain ⟨x9, hx9, h⟩ := bs h
  refine Go.r1 c156 rfl rfl (st1 := mk [(0, .v false [.mp 0 0 0]), (2, .v false [.mp 2 0 0]), (3, .v false [.mp 3 0 0])] [(0, some ⟨0, 0, true, true, false, true, [⟨.imm, 0, 1, .row 1 (List.map (eK .u8) x5.2.code)⟩, ⟨.imm, 0, 0, .sc (.int .i64 x5.2.at_)⟩, ⟨.imm, 0, 0, .sc (.int .u64 x5.2.seed)⟩]⟩), (2, some ⟨0, 0, false, true, false, true, [⟨.imm, 0, 0, .sc (.int .i64 0)⟩, ⟨.imm, 0, 0, .sc (.int .i64 0)⟩]⟩), (3, some ⟨0, 0, false, true, false, true, [⟨.imm, 0, 0, .sc (.int .i64 (w64 (20 + x5.1)))⟩, ⟨.imm, 0, 0, .sc (.int .i64 0)⟩]⟩)]) (by kernel_rfl) (sq z156 (oMv rfl rfl) <| sq z156 (oCa (xs := [.v false [.mp 0 0 0], .v false [.im 0 _]]) (vs := [(false, [.im 0 _])]) (v := .v false [.im 0 _]) (L_spec_l00Src_pick hx9) (.inl rfl) rfl kF184_121_2 rfl (ppP rfl rfl rfl (ppC rfl pp0)) rfl rfl (pbP rfl rfl pb0) rfl rfl rfl) <| sq z156 (oBi rfl rfl rfl rfl) <| sq z156 (oFA (r' := .mp 3 0 1) rfl fF99_1 rfl rfl) <| sq z156 (oSt tF2 rfl rfl rfl (tkI tk0) rfl rfl rfl) <| nl) ?_
  refine Unw.seq ?_
  refine Go.seq ?_
  refine Go.seq ?_
  obtain ⟨x13, hx13, h⟩ := bs h
  refine Go.r1 c156 rfl rfl (st1 := mk [(0, .v false [.mp 0 0 0]), (2, .v false [.mp 2 0 0]), (3, .v false [.mp 3 0 0])] [(0, some ⟨0, 0, true, true, false, true, [⟨.imm, 0, 1, .row 1 (List.map (eK .u8) x9.2.code)⟩, ⟨.imm, 0, 0, .sc (.int .i64 x9.2.at_)⟩, ⟨.imm, 0, 0, .sc (.int .u64 x9.2.seed)⟩]⟩), (2, some ⟨0, 0, false, true, false, true, [⟨.imm, 0, 0, .sc (.int .i64 0)⟩, ⟨.imm, 0, 0, .sc (.int .i64 0)⟩]⟩), (3, some ⟨0, 0, false, true, false, true, [⟨.imm, 0, 0, .sc (.int .i64 (w64 (20 + x5.1)))⟩, ⟨.imm, 0, 0, .sc (.int .i64 (w64 (10 + x9.1)))⟩]⟩)]) (by kernel_rfl) (sq z156 (oMv rfl rfl) <| sq z156 (oCa (xs := [.v false [.mp 0 0 0], .v false [.im 0 _]]) (vs := [(false, [.im 0 _])]) (v := .v false [.im 0 _]) (L_spec_l00Src_pick hx13) (.inl rfl) rfl kF184_121_2 rfl (ppP rfl rfl rfl (ppC rfl pp0)) rfl rfl (pbP rfl rfl pb0) rfl rfl rfl) <| nl) ?_
  refine Unw.seq ?_
  refine Go.join (fun st => ∃ s_o0_0_r8, ∃ s_o0_1_r8, ∃ s_o0_2_r8, ∃ r_o3_0_r8, ∃ r_o3_1_r8, spec_l30DrawRoom_k8 s_o0_0_r8 s_o0_1_r8 s_o0_2_r8 r_o3_0_r8 r_o3_1_r8 = some r ∧ st.norm ([2, 3], [0, 2, 3]) = mk [(2, .v false [.mp 2 0 0]), (3, .v false [.mp 3 0 0])] [(0, some ⟨0, 0, true, true, false, true, [⟨.imm, 0, 1, .row 1 (List.map (eK .u8) s_o0_0_r8)⟩, ⟨.imm, 0, 0, .sc (.int .i64 s_o0_1_r8)⟩, ⟨.imm, 0, 0, .sc (.int .u64 s_o0_2_r8)⟩]⟩), (2, some ⟨0, 0, false, true, false, true, [⟨.imm, 0, 0, .sc (.int .i64 0)⟩, ⟨.imm, 0, 0, .sc (.int .i64 0)⟩]⟩), (3, some ⟨0, 0, false, true, false, true, [⟨.imm, 0, 0, .sc (.int .i64 r_o3_0_r8)⟩, ⟨.imm, 0, 0, .sc (.int .i64 r_o3_1_r8)⟩]⟩)]) ?_ ?_
  · rintro st ⟨s_o0_0_r8, s_o0_1_r8, s_o0_2_r8, r_o3_0_r8, r_o3_1_r8, h, hst⟩
    unfold spec_l30DrawRoom_k8 at h
    refine Unw.seq ?_
    refine Go.seq ?_
    refine Go.r1 c156 rfl rfl hst (sq z156 (oLd (cs := [.im 0 _, .im 0 _]) rfl tF99 rfl rfl) <| sq z156 (oSt tF99 rfl rfl rfl (tkI (tkI tk0)) rfl rfl rfl) <| nl) ?_
    refine Unw.seq ?_
    refine Go.ret (Unw.ret ?_)
    cases h
    exact Fin_ret (fin_of rfl rF156 rfl (by kernel_rfl))
  · intro K3
    refine Go.block ?_
    refine Go.seq ?_
    refine Go.r1 c156 rfl rfl (st1 := mk [(0, .v false [.mp 0 0 0]), (2, .v false [.mp 2 0 0]), (3, .v false [.mp 3 0 0]), (13, iv x13.1)] [(0, some ⟨0, 0, true, true, false, true, [⟨.imm, 0, 1, .row 1 (List.map (eK .u8) x13.2.code)⟩, ⟨.imm, 0, 0, .sc (.int .i64 x13.2.at_)⟩, ⟨.imm, 0, 0, .sc (.int .u64 x13.2.seed)⟩]⟩), (2, some ⟨0, 0, false, true, false, true, [⟨.imm, 0, 0, .sc (.int .i64 0)⟩, ⟨.imm, 0, 0, .sc (.int .i64 0)⟩]⟩), (3, some ⟨0, 0, false, true, false, true, [⟨.imm, 0, 0, .sc (.int .i64 (w64 (20 + x5.1)))⟩, ⟨.imm, 0, 0, .sc (.int .i64 (w64 (10 + x9.1)))⟩]⟩)]) (by kernel_rfl) (sq z156 (oBi rfl rfl rfl rfl) <| sq z156 (oAsI rfl rfl) <| nl) ?_
    refine Unw.seq ?_
    by_cases hc4 : x13.1 = 0
    · rw [if_pos hc4] at h
      refine Go.condT rfl (iEq.2 hc4) ?_
      obtain ⟨x18, hx18, h⟩ := bs h
      refine Go.r0 c156 rfl rfl (sq z156 (oMv rfl rfl) <| sq z156 (oBS (es := List.map eI ([0, 1, 20000, 20001] : List Int)) rfl sF27 rfl (ptC rfl (fxI fx0) rfl (ptC rfl (fxI fx0) rfl (ptC rfl (fxI fx0) rfl (ptC rfl (fxI fx0) rfl pt0)))) (flat0 rfl fun _ => rfl)) <| sq z156 (oCa (xs := [.v false [.mp 0 0 0], .v false [.own 17 0 0]]) (vs := [(false, [.im 0 _])]) (v := .v false [.im 0 _]) (L_spec_l00Src_among hx18) (.inl rfl) rfl kF99_121_27 rfl (ppP rfl rfl rfl (ppC rfl pp0)) rfl rfl (pbP rfl rfl pb0) rfl rfl rfl) <| sq z156 (oFA (r' := .mp 3 0 0) rfl fF99_0 rfl rfl) <| sq z156 (oSt tF2 rfl rfl rfl (tkI tk0) rfl rfl rfl) <| nl) ?_
      refine Unw.blk ?_
      exact K3 _ ⟨x18.2.code, x18.2.at_, x18.2.seed, x18.1, (w64 (10 + x9.1)), h, (by kernel_rfl)⟩
    · rw [if_neg hc4] at h
      refine Go.condF rfl (byF iEq hc4) ?_
      refine Go.seq ?_
      refine Go.r0 c156 rfl rfl (sq z156 (oBi rfl rfl rfl rfl) <| sq z156 (oAsI rfl rfl) <| nl) ?_
      refine Unw.seq ?_
      by_cases hc5 : x13.1 = 1
      · rw [if_pos hc5] at h
        refine Go.condT rfl (iEq.2 hc5) ?_
        obtain ⟨x24, hx24, h⟩ := bs h
        refine Go.r0 c156 rfl rfl (sq z156 (oMv rfl rfl) <| sq z156 (oBS (es := List.map eI ([0, 1, 400, 401, 20001] : List Int)) rfl sF27 rfl (ptC rfl (fxI fx0) rfl (ptC rfl (fxI fx0) rfl (ptC rfl (fxI fx0) rfl (ptC rfl (fxI fx0) rfl (ptC rfl (fxI fx0) rfl pt0))))) (flat0 rfl fun _ => rfl)) <| sq z156 (oCa (xs := [.v false [.mp 0 0 0], .v false [.own 23 0 0]]) (vs := [(false, [.im 0 _])]) (v := .v false [.im 0 _]) (L_spec_l00Src_among hx24) (.inl rfl) rfl kF99_121_27 rfl (ppP rfl rfl rfl (ppC rfl pp0)) rfl rfl (pbP rfl rfl pb0) rfl rfl rfl) <| sq z156 (oFA (r' := .mp 3 0 1) rfl fF99_1 rfl rfl) <| sq z156 (oSt tF2 rfl rfl rfl (tkI tk0) rfl rfl rfl) <| nl) ?_
        refine Unw.blk ?_
        exact K3 _ ⟨x24.2.code, x24.2.at_, x24.2.seed, (w64 (20 + x5.1)), x24.1, h, (by kernel_rfl)⟩
      · rw [if_neg hc5] at h
        refine Go.condF rfl (byF iEq hc5) ?_
        refine Go.skip ?_
        refine Unw.blk ?_
        exact K3 _ ⟨x13.2.code, x13.2.at_, x13.2.seed, (w64 (20 + x5.1)), (w64 (10 + x9.1)), h, (by kernel_rfl)⟩
theorem L_spec_l30DrawStock {s_0 : S_l00Src} {r : (S_Stock × S_l00Src)} (h : spec_l30DrawStock s_0 = some r) : FL Try.prog cfg 157 [.ptr true [(.imm, .row 1 (List.map (eK .u8) s_0.code)), (.imm, .sc (.int .i64 s_0.at_)), (.imm, .sc (.int .u64 s_0.seed))]] = some ([(true, [.im 0 (.sc (.int .i64 r.1.Board)), .im 0 (.sc (.int .i64 r.1.Wide)), .im 0 (.sc (.int .i64 r.1.Least)), .im 0 (.sc (.int .i64 r.1.Stagger))])], [.ptr true [(.imm, .row 1 (List.map (eK .u8) r.2.code)), (.imm, .sc (.int .i64 r.2.at_)), (.imm, .sc (.int .u64 r.2.seed))]]) := by
  unfold spec_l30DrawStock at h
  refine FL_goS (A := [(0, .v false [.mp 0 0 0])]) (B := [(0, some ⟨0, 0, true, true, false, true, [⟨.imm, 0, 1, .row 1 (List.map (eK .u8) s_0.code)⟩, ⟨.imm, 0, 0, .sc (.int .i64 s_0.at_)⟩, ⟨.imm, 0, 0, .sc (.int .u64 s_0.seed)⟩]⟩)]) (nt := 58) rfl rfl Try.func157 rfl rfl rfl rfl ?_
  refine Go.seq ?_
  refine Go.r0 c157 rfl rfl (sq z157 (oAl rfl tF101 (tkI (tkI (tkI (tkI tk0))))) <| nl) ?_
  refine Unw.seq ?_
  refine Go.seq ?_
  obtain ⟨x5, hx5, h⟩ := bs h
  obtain ⟨x8, hx8, h⟩ := bs h
  refine Go.r0 c157 rfl rfl (sq z157 (oMv rfl rfl) <| sq z157 (oCa (xs := [.v false [.mp 0 0 0], .v false [.im 0 _]]) (vs := [(false, [.im 0 _])]) (v := .v false [.im 0 _]) (L_spec_l00Src_pick hx5) (.inl rfl) rfl kF184_121_2 rfl (ppP rfl rfl rfl (ppC rfl pp0)) rfl rfl (pbP rfl rfl pb0) rfl rfl rfl) <| sq z157 (oBi rfl rfl rfl rfl) <| sq z157 (oMv rfl rfl) <| sq z157 (oCa (xs := [.v false [.mp 0 0 0], .v false [.im 0 _]]) (vs := [(false, [.im 0 _])]) (v := .v false [.im 0 _]) (L_spec_l00Src_pick hx8) (.inl rfl) rfl kF184_121_2 rfl (ppP rfl rfl rfl (ppC rfl pp0)) rfl rfl (pbP rfl rfl pb0) rfl rfl rfl) <| sq z157 (oBi rfl rfl rfl rfl) <| sq z157 (oBu (cs := [.im 0 _, .im 0 _, .im 0 _, .im 0 _]) rfl bF101 rfl) <| sq z157 (oAl rfl tF101 (tkI (tkI (tkI (tkI tk0))))) <| sq z157 (oSt tF101 rfl rfl rfl (tkI (tkI (tkI (tkI tk0)))) rfl rfl rfl) <| nl) ?_
  refine Unw.seq ?_
  refine Go.seq ?_
  obtain ⟨x12, hx12, h⟩ := bs h
  refine Go.r1 c157 rfl rfl (st1 := mk [(0, .v false [.mp 0 0 0]), (2, .v false [.mp 2 0 0]), (3, .v false [.mp 3 0 0])] [(0, some ⟨0, 0, true, true, false, true, [⟨.imm, 0, 1, .row 1 (List.map (eK .u8) x8.2.code)⟩, ⟨.imm, 0, 0, .sc (.int .i64 x8.2.at_)⟩, ⟨.imm, 0, 0, .sc (.int .u64 x8.2.seed)⟩]⟩), (2, some ⟨0, 0, false, true, false, true, [⟨.imm, 0, 0, .sc (.int .i64 0)⟩, ⟨.imm, 0, 0, .sc (.int .i64 0)⟩, ⟨.imm, 0, 0, .sc (.int .i64 0)⟩, ⟨.imm, 0, 0, .sc (.int .i64 0)⟩]⟩), (3, some ⟨0, 0, false, true, false, true, [⟨.imm, 0, 0, .sc (.int .i64 (w64 (20 + x5.1)))⟩, ⟨.imm, 0, 0, .sc (.int .i64 (w64 (10 + x8.1)))⟩, ⟨.imm, 0, 0, .sc (.int .i64 0)⟩, ⟨.imm, 0, 0, .sc (.int .i64 0)⟩]⟩)]) (by kernel_rfl) (sq z157 (oMv rfl rfl) <| sq z157 (oCa (xs := [.v false [.mp 0 0 0], .v false [.im 0 _]]) (vs := [(false, [.im 0 _])]) (v := .v false [.im 0 _]) (L_spec_l00Src_pick hx12) (.inl rfl) rfl kF184_121_2 rfl (ppP rfl rfl rfl (ppC rfl pp0)) rfl rfl (pbP rfl rfl pb0) rfl rfl rfl) <| sq z157 (oBi rfl rfl rfl rfl) <| sq z157 (oFA (r' := .mp 3 0 2) rfl fF101_2 rfl rfl) <| sq z157 (oSt tF2 rfl rfl rfl (tkI tk0) rfl rfl rfl) <| nl) ?_
  refine Unw.seq ?_
  refine Go.seq ?_
  obtain ⟨x18, hx18, h⟩ := bs h
  obtain ⟨x20, hx20, h⟩ := bs h
  refine Go.r1 c157 rfl rfl (st1 := mk [(0, .v false [.mp 0 0 0]), (2, .v false [.mp 2 0 0]), (3, .v false [.mp 3 0 0])] [(0, some ⟨0, 0, true, true, false, true, [⟨.imm, 0, 1, .row 1 (List.map (eK .u8) x12.2.code)⟩, ⟨.imm, 0, 0, .sc (.int .i64 x12.2.at_)⟩, ⟨.imm, 0, 0, .sc (.int .u64 x12.2.seed)⟩]⟩), (2, some ⟨0, 0, false, true, false, true, [⟨.imm, 0, 0, .sc (.int .i64 0)⟩, ⟨.imm, 0, 0, .sc (.int .i64 0)⟩, ⟨.imm, 0, 0, .sc (.int .i64 0)⟩, ⟨.imm, 0, 0, .sc (.int .i64 0)⟩]⟩), (3, some ⟨0, 0, false, true, false, true, [⟨.imm, 0, 0, .sc (.int .i64 (w64 (20 + x5.1)))⟩, ⟨.imm, 0, 0, .sc (.int .i64 (w64 (10 + x8.1)))⟩, ⟨.imm, 0, 0, .sc (.int .i64 (w64 (1 + x12.1)))⟩, ⟨.imm, 0, 0, .sc (.int .i64 0)⟩]⟩)]) (by kernel_rfl) (sq z157 (oMv rfl rfl) <| sq z157 (oFA (r' := .mp 3 0 0) rfl fF101_0 rfl rfl) <| sq z157 (oLd (cs := [.im 0 _]) rfl tF2 rfl rfl) <| sq z157 (oQuo rfl hx18 rfl rfl) <| sq z157 (oBS (es := List.map eI ([0, 3, 5, x18, 8] : List Int)) rfl sF27 rfl (ptC rfl (fxI fx0) rfl (ptC rfl (fxI fx0) rfl (ptC rfl (fxI fx0) rfl (ptC rfl (fxI fx0) rfl (ptC rfl (fxI fx0) rfl pt0))))) (flat0 rfl fun _ => rfl)) <| sq z157 (oCa (xs := [.v false [.mp 0 0 0], .v false [.own 19 0 0]]) (vs := [(false, [.im 0 _])]) (v := .v false [.im 0 _]) (L_spec_l00Src_among hx20) (.inl rfl) rfl kF99_121_27 rfl (ppP rfl rfl rfl (ppC rfl pp0)) rfl rfl (pbP rfl rfl pb0) rfl rfl rfl) <| sq z157 (oFA (r' := .mp 3 0 3) rfl fF101_3 rfl rfl) <| sq z157 (oSt tF2 rfl rfl rfl (tkI tk0) rfl rfl rfl) <| nl) ?_
  refine Unw.seq ?_
  refine Go.seq ?_
  refine Go.seq ?_
  obtain ⟨x23, hx23, h⟩ := bs h
  refine Go.r1 c157 rfl rfl (st1 := mk [(0, .v false [.mp 0 0 0]), (2, .v false [.mp 2 0 0]), (3, .v false [.mp 3 0 0])] [(0, some ⟨0, 0, true, true, false, true, [⟨.imm, 0, 1, .row 1 (List.map (eK .u8) x20.2.code)⟩, ⟨.imm, 0, 0, .sc (.int .i64 x20.2.at_)⟩, ⟨.imm, 0, 0, .sc (.int .u64 x20.2.seed)⟩]⟩), (2, some ⟨0, 0, false, true, false, true, [⟨.imm, 0, 0, .sc (.int .i64 0)⟩, ⟨.imm, 0, 0, .sc (.int .i64 0)⟩, ⟨.imm, 0, 0, .sc (.int .i64 0)⟩, ⟨.imm, 0, 0, .sc (.int .i64 0)⟩]⟩), (3, some ⟨0, 0, false, true, false, true, [⟨.imm, 0, 0, .sc (.int .i64 (w64 (20 + x5.1)))⟩, ⟨.imm, 0, 0, .sc (.int .i64 (w64 (10 + x8.1)))⟩, ⟨.imm, 0, 0, .sc (.int .i64 (w64 (1 + x12.1)))⟩, ⟨.imm, 0, 0, .sc (.int .i64 x20.1)⟩]⟩)]) (by kernel_rfl) (sq z157 (oMv rfl rfl) <| sq z157 (oCa (xs := [.v false [.mp 0 0 0], .v false [.im 0 _]]) (vs := [(false, [.im 0 _])]) (v := .v false [.im 0 _]) (L_spec_l00Src_pick hx23) (.inl rfl) rfl kF184_121_2 rfl (ppP rfl rfl rfl (ppC rfl pp0)) rfl rfl (pbP rfl rfl pb0) rfl rfl rfl) <| nl) ?_
  refine Unw.seq ?_
  refine Go.join (fun st => ∃ s_o0_0_r13, ∃ s_o0_1_r13, ∃ s_o0_2_r13, ∃ k_o3_0_r13, ∃ k_o3_1_r13, ∃ k_o3_2_r13, ∃ k_o3_3_r13, spec_l30DrawStock_k13 s_o0_0_r13 s_o0_1_r13 s_o0_2_r13 k_o3_0_r13 k_o3_1_r13 k_o3_2_r13 k_o3_3_r13 = some r ∧ st.norm ([2, 3], [0, 2, 3]) = mk [(2, .v false [.mp 2 0 0]), (3, .v false [.mp 3 0 0])] [(0, some ⟨0, 0, true, true, false, true, [⟨.imm, 0, 1, .row 1 (List.map (eK .u8) s_o0_0_r13)⟩, ⟨.imm, 0, 0, .sc (.int .i64 s_o0_1_r13)⟩, ⟨.imm, 0, 0, .sc (.int .u64 s_o0_2_r13)⟩]⟩), (2, some ⟨0, 0, false, true, false, true, [⟨.imm, 0, 0, .sc (.int .i64 0)⟩, ⟨.imm, 0, 0, .sc (.int .i64 0)⟩, ⟨.imm, 0, 0, .sc (.int .i64 0)⟩, ⟨.imm, 0, 0, .sc (.int .i64 0)⟩]⟩), (3, some ⟨0, 0, false, true, false, true, [⟨.imm, 0, 0, .sc (.int .i64 k_o3_0_r13)⟩, ⟨.imm, 0, 0, .sc (.int .i64 k_o3_1_r13)⟩, ⟨.imm, 0, 0, .sc (.int .i64 k_o3_2_r13)⟩, ⟨.imm, 0, 0, .sc (.int .i64 k_o3_3_r13)⟩]⟩)]) ?_ ?_
  · rintro st ⟨s_o0_0_r13, s_o0_1_r13, s_o0_2_r13, k_o3_0_r13, k_o3_1_r13, k_o3_2_r13, k_o3_3_r13, h, hst⟩
    unfold spec_l30DrawStock_k13 at h
    refine Unw.seq ?_
    refine Go.seq ?_
    refine Go.r1 c157 rfl rfl hst (sq z157 (oLd (cs := [.im 0 _, .im 0 _, .im 0 _, .im 0 _]) rfl tF101 rfl rfl) <| sq z157 (oSt tF101 rfl rfl rfl (tkI (tkI (tkI (tkI tk0)))) rfl rfl rfl) <| nl) ?_
    refine Unw.seq ?_
    refine Go.ret (Unw.ret ?_)
    cases h
    exact Fin_ret (fin_of rfl rF157 rfl (by kernel_rfl))
  · intro K5
    refine Go.block ?_
    refine Go.seq ?_
    refine Go.r1 c157 rfl rfl (st1 := mk [(0, .v false [.mp 0 0 0]), (2, .v false [.mp 2 0 0]), (3, .v false [.mp 3 0 0]), (23, iv x23.1)] [(0, some ⟨0, 0, true, true, false, true, [⟨.imm, 0, 1, .row 1 (List.map (eK .u8) x23.2.code)⟩, ⟨.imm, 0, 0, .sc (.int .i64 x23.2.at_)⟩, ⟨.imm, 0, 0, .sc (.int .u64 x23.2.seed)⟩]⟩), (2, some ⟨0, 0, false, true, false, true, [⟨.imm, 0, 0, .sc (.int .i64 0)⟩, ⟨.imm, 0, 0, .sc (.int .i64 0)⟩, ⟨.imm, 0, 0, .sc (.int .i64 0)⟩, ⟨.imm, 0, 0, .sc (.int .i64 0)⟩]⟩), (3, some ⟨0, 0, false, true, false, true, [⟨.imm, 0, 0, .sc (.int .i64 (w64 (20 + x5.1)))⟩, ⟨.imm, 0, 0, .sc (.int .i64 (w64 (10 + x8.1)))⟩, ⟨.imm, 0, 0, .sc (.int .i64 (w64 (1 + x12.1)))⟩, ⟨.imm, 0, 0, .sc (.int .i64 x20.1)⟩]⟩)]) (by kernel_rfl) (sq z157 (oBi rfl rfl rfl rfl) <| sq z157 (oAsI rfl rfl) <| nl) ?_
    refine Unw.seq ?_
    by_cases hc6 : x23.1 = 0
    · rw [if_pos hc6] at h
      refine Go.condT rfl (iEq.2 hc6) ?_
      obtain ⟨x28, hx28, h⟩ := bs h
      refine Go.r0 c157 rfl rfl (sq z157 (oMv rfl rfl) <| sq z157 (oBS (es := List.map eI ([9, 10, 5000, 5001] : List Int)) rfl sF27 rfl (ptC rfl (fxI fx0) rfl (ptC rfl (fxI fx0) rfl (ptC rfl (fxI fx0) rfl (ptC rfl (fxI fx0) rfl pt0)))) (flat0 rfl fun _ => rfl)) <| sq z157 (oCa (xs := [.v false [.mp 0 0 0], .v false [.own 27 0 0]]) (vs := [(false, [.im 0 _])]) (v := .v false [.im 0 _]) (L_spec_l00Src_among hx28) (.inl rfl) rfl kF99_121_27 rfl (ppP rfl rfl rfl (ppC rfl pp0)) rfl rfl (pbP rfl rfl pb0) rfl rfl rfl) <| sq z157 (oFA (r' := .mp 3 0 0) rfl fF101_0 rfl rfl) <| sq z157 (oSt tF2 rfl rfl rfl (tkI tk0) rfl rfl rfl) <| nl) ?_
      refine Unw.blk ?_
      exact K5 _ ⟨x28.2.code, x28.2.at_, x28.2.seed, x28.1, (w64 (10 + x8.1)), (w64 (1 + x12.1)), x20.1, h, (by kernel_rfl)⟩
    · rw [if_neg hc6] at h
      refine Go.condF rfl (byF iEq hc6) ?_
      refine Go.seq ?_
      refine Go.r0 c157 rfl rfl (sq z157 (oBi rfl rfl rfl rfl) <| sq z157 (oAsI rfl rfl) <| nl) ?_
      refine Unw.seq ?_
      by_cases hc7 : x23.1 = 1
      · rw [if_pos hc7] at h
        refine Go.condT rfl (iEq.2 hc7) ?_
        obtain ⟨x34, hx34, h⟩ := bs h
        refine Go.r0 c157 rfl rfl (sq z157 (oMv rfl rfl) <| sq z157 (oBS (es := List.map eI ([9, 1000, 1001] : List Int)) rfl sF27 rfl (ptC rfl (fxI fx0) rfl (ptC rfl (fxI fx0) rfl (ptC rfl (fxI fx0) rfl pt0))) (flat0 rfl fun _ => rfl)) <| sq z157 (oCa (xs := [.v false [.mp 0 0 0], .v false [.own 33 0 0]]) (vs := [(false, [.im 0 _])]) (v := .v false [.im 0 _]) (L_spec_l00Src_among hx34) (.inl rfl) rfl kF99_121_27 rfl (ppP rfl rfl rfl (ppC rfl pp0)) rfl rfl (pbP rfl rfl pb0) rfl rfl rfl) <| sq z157 (oFA (r' := .mp 3 0 1) rfl fF101_1 rfl rfl) <| sq z157 (oSt tF2 rfl rfl rfl (tkI tk0) rfl rfl rfl) <| nl) ?_
        refine Unw.blk ?_
        exact K5 _ ⟨x34.2.code, x34.2.at_, x34.2.seed, (w64 (20 + x5.1)), x34.1, (w64 (1 + x12.1)), x20.1, h, (by kernel_rfl)⟩
      · rw [if_neg hc7] at h
        refine Go.condF rfl (byF iEq hc7) ?_
        refine Go.seq ?_
        refine Go.r0 c157 rfl rfl (sq z157 (oBi rfl rfl rfl rfl) <| sq z157 (oAsI rfl rfl) <| nl) ?_
        refine Unw.seq ?_
        by_cases hc8 : x23.1 = 2
        · rw [if_pos hc8] at h
          refine Go.condT rfl (iEq.2 hc8) ?_
          obtain ⟨x45, hx45, h⟩ := bs h
          refine Go.r0 c157 rfl rfl (sq z157 (oMv rfl rfl) <| sq z157 (oFA (r' := .mp 3 0 0) rfl fF101_0 rfl rfl) <| sq z157 (oLd (cs := [.im 0 _]) rfl tF2 rfl rfl) <| sq z157 (oFA (r' := .mp 3 0 0) rfl fF101_0 rfl rfl) <| sq z157 (oLd (cs := [.im 0 _]) rfl tF2 rfl rfl) <| sq z157 (oBi rfl rfl rfl rfl) <| sq z157 (oBS (es := List.map eI ([0, (w64 (20 + x5.1)), (w64 ((w64 (20 + x5.1)) + 1))] : List Int)) rfl sF27 rfl (ptC rfl (fxI fx0) rfl (ptC rfl (fxI fx0) rfl (ptC rfl (fxI fx0) rfl pt0))) (flat0 rfl fun _ => rfl)) <| sq z157 (oCa (xs := [.v false [.mp 0 0 0], .v false [.own 44 0 0]]) (vs := [(false, [.im 0 _])]) (v := .v false [.im 0 _]) (L_spec_l00Src_among hx45) (.inl rfl) rfl kF99_121_27 rfl (ppP rfl rfl rfl (ppC rfl pp0)) rfl rfl (pbP rfl rfl pb0) rfl rfl rfl) <| sq z157 (oFA (r' := .mp 3 0 2) rfl fF101_2 rfl rfl) <| sq z157 (oSt tF2 rfl rfl rfl (tkI tk0) rfl rfl rfl) <| nl) ?_
          refine Unw.blk ?_
          exact K5 _ ⟨x45.2.code, x45.2.at_, x45.2.seed, (w64 (20 + x5.1)), (w64 (10 + x8.1)), x45.1, x20.1, h, (by kernel_rfl)⟩
        · rw [if_neg hc8] at h
          refine Go.condF rfl (byF iEq hc8) ?_
          refine Go.seq ?_
          refine Go.r0 c157 rfl rfl (sq z157 (oBi rfl rfl rfl rfl) <| sq z157 (oAsI rfl rfl) <| nl) ?_
          refine Unw.seq ?_
          by_cases hc9 : x23.1 = 3
          · rw [if_pos hc9] at h
            refine Go.condT rfl (iEq.2 hc9) ?_
            obtain ⟨x52, hx52, h⟩ := bs h
            obtain ⟨x55, hx55, h⟩ := bs h
            refine Go.r0 c157 rfl rfl (sq z157 (oMv rfl rfl) <| sq z157 (oFA (r' := .mp 3 0 0) rfl fF101_0 rfl rfl) <| sq z157 (oLd (cs := [.im 0 _]) rfl tF2 rfl rfl) <| sq z157 (oQuo rfl hx52 rfl rfl) <| sq z157 (oBi rfl rfl rfl rfl) <| sq z157 (oBS (es := List.map eI ([(-1), (w64 (x52 + 1))] : List Int)) rfl sF27 rfl (ptC rfl (fxI fx0) rfl (ptC rfl (fxI fx0) rfl pt0)) (flat0 rfl fun _ => rfl)) <| sq z157 (oCa (xs := [.v false [.mp 0 0 0], .v false [.own 54 0 0]]) (vs := [(false, [.im 0 _])]) (v := .v false [.im 0 _]) (L_spec_l00Src_among hx55) (.inl rfl) rfl kF99_121_27 rfl (ppP rfl rfl rfl (ppC rfl pp0)) rfl rfl (pbP rfl rfl pb0) rfl rfl rfl) <| sq z157 (oFA (r' := .mp 3 0 3) rfl fF101_3 rfl rfl) <| sq z157 (oSt tF2 rfl rfl rfl (tkI tk0) rfl rfl rfl) <| nl) ?_
            refine Unw.blk ?_
            exact K5 _ ⟨x55.2.code, x55.2.at_, x55.2.seed, (w64 (20 + x5.1)), (w64 (10 + x8.1)), (w64 (1 + x12.1)), x55.1, h, (by kernel_rfl)⟩
          · rw [if_neg hc9] at h
            refine Go.condF rfl (byF iEq hc9) ?_
            refine Go.skip ?_
            refine Unw.blk ?_
            exact K5 _ ⟨x23.2.code, x23.2.at_, x23.2.seed, (w64 (20 + x5.1)), (w64 (10 + x8.1)), (w64 (1 + x12.1)), x20.1, h, (by kernel_rfl)⟩
theorem L_spec_l00Src_one {s_0 : S_l00Src} {n_1 : Int} {r : (Bool × S_l00Src)} (h : spec_l00Src_one s_0 n_1 = some r) : FL Try.prog cfg 183 [.ptr true [(.imm, .row 1 (List.map (eK .u8) s_0.code)), (.imm, .sc (.int .i64 s_0.at_)), (.imm, .sc (.int .u64 s_0.seed))], .im 2 false [.sc (.int .i64 n_1)]] = some ([(false, [.im 0 (.sc (.bool r.1))])], [.ptr true [(.imm, .row 1 (List.map (eK .u8) r.2.code)), (.imm, .sc (.int .i64 r.2.at_)), (.imm, .sc (.int .u64 r.2.seed))]]) := by
  unfold spec_l00Src_one at h
  refine FL_goS (A := [(0, .v false [.mp 0 0 0]), (1, .v false [.im 2 (.sc (.int .i64 n_1))])]) (B := [(0, some ⟨0, 0, true, true, false, true, [⟨.imm, 0, 1, .row 1 (List.map (eK .u8) s_0.code)⟩, ⟨.imm, 0, 0, .sc (.int .i64 s_0.at_)⟩, ⟨.imm, 0, 0, .sc (.int .u64 s_0.seed)⟩]⟩), (1, none)]) (nt := 9) rfl rfl Try.func183 rfl rfl rfl rfl ?_
  refine Go.seq ?_
  refine Go.r0 c183 rfl rfl (sq z183 (oAsI rfl rfl) <| nl) ?_
  refine Unw.seq ?_
  refine Go.seq ?_
  obtain ⟨x7, hx7, h⟩ := bs h
  refine Go.r0 c183 rfl rfl (sq z183 (oMv rfl rfl) <| sq z183 (oMv rfl rfl) <| sq z183 (oCa (xs := [.v false [.mp 0 0 0], .v false [.im 2 _]]) (vs := [(false, [.im 0 _])]) (v := .v false [.im 0 _]) (L_spec_l00Src_pick hx7) (.inl rfl) rfl kF184_121_2 rfl (ppP rfl rfl rfl (ppC rfl pp0)) rfl rfl (pbP rfl rfl pb0) rfl rfl rfl) <| sq z183 (oBi rfl rfl rfl rfl) <| sq z183 (oAsI rfl rfl) <| nl) ?_
  refine Unw.seq ?_
  refine Go.ret (Unw.ret ?_)
  cases h
  exact Fin_ret (fin_of rfl rF183 rfl (by kernel_rfl))
theorem L_spec_l08DrawBudget {s_0 : S_l00Src} {r : (Int × S_l00Src)} (h : spec_l08DrawBudget s_0 = some r) : FL Try.prog cfg 87 [.ptr true [(.imm, .row 1 (List.map (eK .u8) s_0.code)), (.imm, .sc (.int .i64 s_0.at_)), (.imm, .sc (.int .u64 s_0.seed))]] = some ([(false, [.im 0 (.sc (.int .i64 r.1))])], [.ptr true [(.imm, .row 1 (List.map (eK .u8) r.2.code)), (.imm, .sc (.int .i64 r.2.at_)), (.imm, .sc (.int .u64 r.2.seed))]]) := by
  unfold spec_l08DrawBudget at h
  refine FL_goS (A := [(0, .v false [.mp 0 0 0])]) (B := [(0, some ⟨0, 0, true, true, false, true, [⟨.imm, 0, 1, .row 1 (List.map (eK .u8) s_0.code)⟩, ⟨.imm, 0, 0, .sc (.int .i64 s_0.at_)⟩, ⟨.imm, 0, 0, .sc (.int .u64 s_0.seed)⟩]⟩)]) (nt := 11) rfl rfl Try.func87 rfl rfl rfl rfl ?_
  refine Go.seq ?_
  refine Go.r0 c87 rfl rfl (sq z87 (oAsI rfl rfl) <| nl) ?_
  refine Unw.seq ?_
  refine Go.seq ?_
  refine Go.seq ?_
  obtain ⟨x4, hx4, h⟩ := bs h
  refine Go.r0 c87 rfl rfl (sq z87 (oMv rfl rfl) <| sq z87 (oCa (xs := [.v false [.mp 0 0 0], .v false [.im 0 _]]) (vs := [(false, [.im 0 _])]) (v := .v false [.im 0 _]) (L_spec_l00Src_one hx4) (.inl rfl) rfl kF183_121_2 rfl (ppP rfl rfl rfl (ppC rfl pp0)) rfl rfl (pbP rfl rfl pb0) rfl rfl rfl) <| nl) ?_
  refine Unw.seq ?_
  by_cases hc1 : x4.1 = true
  · rw [if_pos hc1] at h
    refine Go.condT rfl (Iff.rfl.2 hc1) ?_
    refine Go.seq ?_
    obtain ⟨x7, hx7, h⟩ := bs h
    refine Go.r1 c87 rfl rfl (st1 := mk [(0, .v false [.mp 0 0 0])] [(0, some ⟨0, 0, true, true, false, true, [⟨.imm, 0, 1, .row 1 (List.map (eK .u8) x4.2.code)⟩, ⟨.imm, 0, 0, .sc (.int .i64 x4.2.at_)⟩, ⟨.imm, 0, 0, .sc (.int .u64 x4.2.seed)⟩]⟩)]) (by kernel_rfl) (sq z87 (oMv rfl rfl) <| sq z87 (oBS (es := List.map eI ([0, 1, 5, 20000, 20001] : List Int)) rfl sF27 rfl (ptC rfl (fxI fx0) rfl (ptC rfl (fxI fx0) rfl (ptC rfl (fxI fx0) rfl (ptC rfl (fxI fx0) rfl (ptC rfl (fxI fx0) rfl pt0))))) (flat0 rfl fun _ => rfl)) <| sq z87 (oCa (xs := [.v false [.mp 0 0 0], .v false [.own 6 0 0]]) (vs := [(false, [.im 0 _])]) (v := .v false [.im 0 _]) (L_spec_l00Src_among hx7) (.inl rfl) rfl kF99_121_27 rfl (ppP rfl rfl rfl (ppC rfl pp0)) rfl rfl (pbP rfl rfl pb0) rfl rfl rfl) <| sq z87 (oAsI rfl rfl) <| nl) ?_
    refine Unw.seq ?_
    refine Go.ret (Unw.ret ?_)
    cases h
    exact Fin_ret (fin_of rfl rF87 rfl (by kernel_rfl))
  · rw [if_neg hc1] at h
    refine Go.condF rfl (byF Iff.rfl hc1) ?_
    refine Go.skip ?_
    refine Unw.seq ?_
    refine Go.seq ?_
    obtain ⟨x9, hx9, h⟩ := bs h
    refine Go.r1 c87 rfl rfl (st1 := mk [(0, .v false [.mp 0 0 0])] [(0, some ⟨0, 0, true, true, false, true, [⟨.imm, 0, 1, .row 1 (List.map (eK .u8) x4.2.code)⟩, ⟨.imm, 0, 0, .sc (.int .i64 x4.2.at_)⟩, ⟨.imm, 0, 0, .sc (.int .u64 x4.2.seed)⟩]⟩)]) (by kernel_rfl) (sq z87 (oMv rfl rfl) <| sq z87 (oCa (xs := [.v false [.mp 0 0 0], .v false [.im 0 _]]) (vs := [(false, [.im 0 _])]) (v := .v false [.im 0 _]) (L_spec_l00Src_pick hx9) (.inl rfl) rfl kF184_121_2 rfl (ppP rfl rfl rfl (ppC rfl pp0)) rfl rfl (pbP rfl rfl pb0) rfl rfl rfl) <| sq z87 (oBi rfl rfl rfl rfl) <| sq z87 (oAsI rfl rfl) <| nl) ?_
    refine Unw.seq ?_
    refine Go.ret (Unw.ret ?_)
    cases h
    exact Fin_ret (fin_of rfl rF87 rfl (by kernel_rfl))
theorem L_spec_DrawBestFloor {code_0 : (List Int)} {r : (S_Room × S_Stock × Int × Int)} (h : spec_DrawBestFloor code_0 = some r) : FL Try.prog cfg 68 [.im 2 false [.row 1 (List.map (eK .u8) code_0)]] = some ([(true, [.im 0 (.sc (.int .i64 r.1.Width)), .im 0 (.sc (.int .i64 r.1.Length))]), (true, [.im 0 (.sc (.int .i64 r.2.1.Board)), .im 0 (.sc (.int .i64 r.2.1.Wide)), .im 0 (.sc (.int .i64 r.2.1.Least)), .im 0 (.sc (.int .i64 r.2.1.Stagger))]), (false, [.im 0 (.sc (.int .i64 r.2.2.1))]), (false, [.im 0 (.sc (.int .i64 r.2.2.2))])], []) := by
  unfold spec_DrawBestFloor at h
  refine FL_goS (A := [(0, .v false [.im 2 (.row 1 (List.map (eK .u8) code_0))])]) (B := [(0, none)]) (nt := 29) rfl rfl Try.func68 rfl rfl rfl rfl ?_
  refine Go.seq ?_
  refine Go.r0 c68 rfl rfl (sq z68 (oAl rfl tF99 (tkI (tkI tk0))) <| sq z68 (oAl rfl tF101 (tkI (tkI (tkI (tkI tk0))))) <| sq z68 (oAsI rfl rfl) <| sq z68 (oAsI rfl rfl) <| nl) ?_
  refine Unw.seq ?_
  refine Go.seq ?_
  obtain ⟨x11, hx11, h⟩ := bs h
  refine Go.r0 c68 rfl rfl (sq z68 (oMv rfl rfl) <| sq z68 (oCp (xs := [.v false [.im 2 _]]) (L_spec_l00From hx11) (.inl rfl) rfl kF85_22 rfl (ppC rfl pp0) rfl rfl pb0 rfl) <| sq z68 (oAsP rfl rfl) <| nl) ?_
  refine Unw.seq ?_
  refine Go.seq ?_
  obtain ⟨x13, hx13, h⟩ := bs h
  refine Go.r0 c68 rfl rfl (sq z68 (oMv rfl rfl) <| sq z68 (oCa (xs := [.v false [.mp 11 0 0]]) (vs := [(true, [.im 0 _, .im 0 _])]) (v := .v true [.im 0 _, .im 0 _]) (L_spec_l30DrawRoom hx13) (.inl rfl) rfl kF156_121 rfl (ppP rfl rfl rfl pp0) rfl rfl (pbP rfl rfl pb0) rfl rfl rfl) <| sq z68 (oAl rfl tF99 (tkI (tkI tk0))) <| sq z68 (oSt tF99 rfl rfl rfl (tkI (tkI tk0)) rfl rfl rfl) <| nl) ?_
  refine Unw.seq ?_
  refine Go.seq ?_
  obtain ⟨x15, hx15, h⟩ := bs h
  refine Go.r1 c68 rfl rfl (st1 := mk [(2, .v false [.mp 2 0 0]), (3, .v false [.mp 3 0 0]), (6, .v false [.mp 11 0 0]), (7, .v false [.mp 7 0 0])] [(2, some ⟨0, 0, false, true, false, true, [⟨.imm, 0, 0, .sc (.int .i64 0)⟩, ⟨.imm, 0, 0, .sc (.int .i64 0)⟩]⟩), (3, some ⟨0, 0, false, true, false, true, [⟨.imm, 0, 0, .sc (.int .i64 0)⟩, ⟨.imm, 0, 0, .sc (.int .i64 0)⟩, ⟨.imm, 0, 0, .sc (.int .i64 0)⟩, ⟨.imm, 0, 0, .sc (.int .i64 0)⟩]⟩), (7, some ⟨0, 0, false, true, false, true, [⟨.imm, 0, 0, .sc (.int .i64 x13.1.Width)⟩, ⟨.imm, 0, 0, .sc (.int .i64 x13.1.Length)⟩]⟩), (11, some ⟨0, 0, false, true, false, true, [⟨.imm, 0, 2, .row 1 (List.map (eK .u8) x13.2.code)⟩, ⟨.imm, 0, 0, .sc (.int .i64 x13.2.at_)⟩, ⟨.imm, 0, 0, .sc (.int .u64 x13.2.seed)⟩]⟩)]) (by kernel_rfl) (sq z68 (oMv rfl rfl) <| sq z68 (oCa (xs := [.v false [.mp 11 0 0]]) (vs := [(true, [.im 0 _, .im 0 _, .im 0 _, .im 0 _])]) (v := .v true [.im 0 _, .im 0 _, .im 0 _, .im 0 _]) (L_spec_l30DrawStock hx15) (.inl rfl) rfl kF157_121 rfl (ppP rfl rfl rfl pp0) rfl rfl (pbP rfl rfl pb0) rfl rfl rfl) <| sq z68 (oAl rfl tF101 (tkI (tkI (tkI (tkI tk0))))) <| sq z68 (oSt tF101 rfl rfl rfl (tkI (tkI (tkI (tkI tk0)))) rfl rfl rfl) <| nl) ?_
  refine Unw.seq ?_
  refine Go.seq ?_
  obtain ⟨x23, hx23, h⟩ := bs h
  refine Go.r1 c68 rfl rfl (st1 := mk [(2, .v false [.mp 2 0 0]), (3, .v false [.mp 3 0 0]), (6, .v false [.mp 11 0 0]), (7, .v false [.mp 7 0 0]), (8, .v false [.mp 8 0 0])] [(2, some ⟨0, 0, false, true, false, true, [⟨.imm, 0, 0, .sc (.int .i64 0)⟩, ⟨.imm, 0, 0, .sc (.int .i64 0)⟩]⟩), (3, some ⟨0, 0, false, true, false, true, [⟨.imm, 0, 0, .sc (.int .i64 0)⟩, ⟨.imm, 0, 0, .sc (.int .i64 0)⟩, ⟨.imm, 0, 0, .sc (.int .i64 0)⟩, ⟨.imm, 0, 0, .sc (.int .i64 0)⟩]⟩), (7, some ⟨0, 0, false, true, false, true, [⟨.imm, 0, 0, .sc (.int .i64 x13.1.Width)⟩, ⟨.imm, 0, 0, .sc (.int .i64 x13.1.Length)⟩]⟩), (8, some ⟨0, 0, false, true, false, true, [⟨.imm, 0, 0, .sc (.int .i64 x15.1.Board)⟩, ⟨.imm, 0, 0, .sc (.int .i64 x15.1.Wide)⟩, ⟨.imm, 0, 0, .sc (.int .i64 x15.1.Least)⟩, ⟨.imm, 0, 0, .sc (.int .i64 x15.1.Stagger)⟩]⟩), (11, some ⟨0, 0, false, true, false, true, [⟨.imm, 0, 2, .row 1 (List.map (eK .u8) x15.2.code)⟩, ⟨.imm, 0, 0, .sc (.int .i64 x15.2.at_)⟩, ⟨.imm, 0, 0, .sc (.int .u64 x15.2.seed)⟩]⟩)]) (by kernel_rfl) (sq z68 (oMv rfl rfl) <| sq z68 (oFA (r' := .mp 8 0 0) rfl fF101_0 rfl rfl) <| sq z68 (oLd (cs := [.im 0 _]) rfl tF2 rfl rfl) <| sq z68 (oFA (r' := .mp 8 0 0) rfl fF101_0 rfl rfl) <| sq z68 (oLd (cs := [.im 0 _]) rfl tF2 rfl rfl) <| sq z68 (oBi rfl rfl rfl rfl) <| sq z68 (oBS (es := List.map eI ([5, 7, 10, 1, x15.1.Board, (w64 (x15.1.Board + 1)), 0] : List Int)) rfl sF27 rfl (ptC rfl (fxI fx0) rfl (ptC rfl (fxI fx0) rfl (ptC rfl (fxI fx0) rfl (ptC rfl (fxI fx0) rfl (ptC rfl (fxI fx0) rfl (ptC rfl (fxI fx0) rfl (ptC rfl (fxI fx0) rfl pt0))))))) (flat0 rfl fun _ => rfl)) <| sq z68 (oCa (xs := [.v false [.mp 11 0 0], .v false [.own 22 0 0]]) (vs := [(false, [.im 0 _])]) (v := .v false [.im 0 _]) (L_spec_l00Src_among hx23) (.inl rfl) rfl kF99_121_27 rfl (ppP rfl rfl rfl (ppC rfl pp0)) rfl rfl (pbP rfl rfl pb0) rfl rfl rfl) <| sq z68 (oAsI rfl rfl) <| nl) ?_
  refine Unw.seq ?_
  refine Go.seq ?_
  obtain ⟨x28, hx28, h⟩ := bs h
  refine Go.dr c68 rfl rfl rfl (st1 := mk [(2, .v false [.mp 2 0 0]), (3, .v false [.mp 3 0 0]), (6, .v false [.mp 11 0 0]), (7, .v false [.mp 7 0 0]), (8, .v false [.mp 8 0 0]), (9, iv x23.1)] [(2, some ⟨0, 0, false, true, false, true, [⟨.imm, 0, 0, .sc (.int .i64 0)⟩, ⟨.imm, 0, 0, .sc (.int .i64 0)⟩]⟩), (3, some ⟨0, 0, false, true, false, true, [⟨.imm, 0, 0, .sc (.int .i64 0)⟩, ⟨.imm, 0, 0, .sc (.int .i64 0)⟩, ⟨.imm, 0, 0, .sc (.int .i64 0)⟩, ⟨.imm, 0, 0, .sc (.int .i64 0)⟩]⟩), (7, some ⟨0, 0, false, true, false, true, [⟨.imm, 0, 0, .sc (.int .i64 x13.1.Width)⟩, ⟨.imm, 0, 0, .sc (.int .i64 x13.1.Length)⟩]⟩), (8, some ⟨0, 0, false, true, false, true, [⟨.imm, 0, 0, .sc (.int .i64 x15.1.Board)⟩, ⟨.imm, 0, 0, .sc (.int .i64 x15.1.Wide)⟩, ⟨.imm, 0, 0, .sc (.int .i64 x15.1.Least)⟩, ⟨.imm, 0, 0, .sc (.int .i64 x15.1.Stagger)⟩]⟩), (11, some ⟨0, 0, false, true, false, true, [⟨.imm, 0, 2, .row 1 (List.map (eK .u8) x23.2.code)⟩, ⟨.imm, 0, 0, .sc (.int .i64 x23.2.at_)⟩, ⟨.imm, 0, 0, .sc (.int .u64 x23.2.seed)⟩]⟩)]) (by kernel_rfl) (mk [(2, .v false [.mp 2 0 0]), (3, .v false [.mp 3 0 0]), (4, iv x23.1), (5, iv x28.1)] [(2, some ⟨0, 0, false, true, false, true, [⟨.imm, 0, 0, .sc (.int .i64 x13.1.Width)⟩, ⟨.imm, 0, 0, .sc (.int .i64 x13.1.Length)⟩]⟩), (3, some ⟨0, 0, false, true, false, true, [⟨.imm, 0, 0, .sc (.int .i64 x15.1.Board)⟩, ⟨.imm, 0, 0, .sc (.int .i64 x15.1.Wide)⟩, ⟨.imm, 0, 0, .sc (.int .i64 x15.1.Least)⟩, ⟨.imm, 0, 0, .sc (.int .i64 x15.1.Stagger)⟩]⟩)]) (sT rfl (dN z68 rfl (oMv rfl rfl)) <| sT rfl (dN z68 rfl (oMv rfl rfl)) <| sK (O := [7]) rfl rfl rfl (dN z68 rfl (oLd (cs := [.im 0 _, .im 0 _]) rfl tF99 rfl rfl)) <| sF (dN z68 rfl (oLd (cs := [.im 0 _, .im 0 _, .im 0 _, .im 0 _]) rfl tF101 rfl rfl)) (kY ⟨rfl, trivial⟩ trivial) (sS (dN z68 rfl (oCa (xs := [.v false [.mp 11 0 0]]) (vs := [(false, [.im 0 _])]) (v := .v false [.im 0 _]) (L_spec_l08DrawBudget hx28) (.inl rfl) rfl kF87_121 rfl (ppP rfl rfl rfl pp0) rfl rfl (pbP rfl rfl pb0) rfl rfl rfl)) (kY ⟨rfl, trivial⟩ trivial) (sS (dN z68 rfl (oSt tF99 rfl rfl rfl (tkI (tkI tk0)) rfl rfl rfl)) (kN rfl trivial) (sS (dN z68 rfl (oSt tF101 rfl rfl rfl (tkI (tkI (tkI (tkI tk0)))) rfl rfl rfl)) (kN rfl trivial) (sS (dN z68 rfl (oAsI rfl rfl)) (kN rfl trivial) (sS (dN z68 rfl (oAsI rfl rfl)) (kN rfl trivial) (sD (by kernel_rfl))))))) (sS (dN z68 rfl (oCa (xs := [.v false [.mp 11 0 0]]) (vs := [(false, [.im 0 _])]) (v := .v false [.im 0 _]) (L_spec_l08DrawBudget hx28) (.inl rfl) rfl kF87_121 rfl (ppP rfl rfl rfl pp0) rfl rfl (pbP rfl rfl pb0) rfl rfl rfl)) (kY ⟨rfl, trivial⟩ trivial) (sF (dN z68 rfl (oLd (cs := [.im 0 _, .im 0 _, .im 0 _, .im 0 _]) rfl tF101 rfl rfl)) (kY ⟨rfl, trivial⟩ trivial) (sS (dN z68 rfl (oSt tF99 rfl rfl rfl (tkI (tkI tk0)) rfl rfl rfl)) (kN rfl trivial) (sS (dN z68 rfl (oSt tF101 rfl rfl rfl (tkI (tkI (tkI (tkI tk0)))) rfl rfl rfl)) (kN rfl trivial) (sS (dN z68 rfl (oAsI rfl rfl)) (kN rfl trivial) (sS (dN z68 rfl (oAsI rfl rfl)) (kN rfl trivial) (sD (by kernel_rfl)))))) (sS (dN z68 rfl (oSt tF99 rfl rfl rfl (tkI (tkI tk0)) rfl rfl rfl)) (kN rfl trivial) (sT rfl (dN z68 rfl (oLd (cs := [.im 0 _, .im 0 _, .im 0 _, .im 0 _]) rfl tF101 rfl rfl)) <| sS (dN z68 rfl (oSt tF101 rfl rfl rfl (tkI (tkI (tkI (tkI tk0)))) rfl rfl rfl)) (kN rfl trivial) (sS (dN z68 rfl (oAsI rfl rfl)) (kN rfl trivial) (sS (dN z68 rfl (oAsI rfl rfl)) (kN rfl trivial) (sD (by kernel_rfl))))))))) ?_
  refine Unw.seq ?_
  refine Go.ret (Unw.ret ?_)
  cases h
  exact Fin_ret (fin_of rfl rF68 rfl (by kernel_rfl))
theorem L_impl_within {n_0 : Int} {low_1 : Int} {high_2 : Int} {r : Bool} (h : impl_within n_0 low_1 high_2 = some r) : FL Try.prog cfg 92 [.im 2 false [.sc (.int .i64 n_0)], .im 2 false [.sc (.int .i64 low_1)], .im 2 false [.sc (.int .i64 high_2)]] = some ([(false, [.im 0 (.sc (.bool r))])], []) := by
  unfold impl_within at h
  refine FL_goS (A := [(0, .v false [.im 2 (.sc (.int .i64 n_0))]), (1, .v false [.im 2 (.sc (.int .i64 low_1))]), (2, .v false [.im 2 (.sc (.int .i64 high_2))])]) (B := [(0, none), (1, none), (2, none)]) (nt := 15) rfl rfl Try.func92 rfl rfl rfl rfl ?_
  refine Go.seq ?_
  refine Go.r0 c92 rfl rfl (sq z92 (oAsI rfl rfl) <| nl) ?_
  refine Unw.seq ?_
  refine Go.seq ?_
  refine Go.rX c92 rfl rfl rfl (mk [(6, bv ((decide (n_0 ≥ low_1)) && (decide (n_0 ≤ high_2))))] []) ?_ ?_
  · by_cases hc1 : n_0 ≥ low_1
    · exact ⟨_, sq z92 (oMv rfl rfl) <| sq z92 (oMv rfl rfl) <| sq z92 (oBi rfl rfl rfl rfl) <| sq z92 (oMv rfl rfl) <| sgT z92 rfl rfl (iDec.2 hc1) (oMv rfl rfl) <| sgT z92 rfl rfl (iDec.2 hc1) (oMv rfl rfl) <| sgT z92 rfl rfl (iDec.2 hc1) (oBi rfl rfl rfl rfl) <| sq z92 (oPkT rfl rfl (iDec.2 hc1) rfl) <| sq z92 (oAsI rfl rfl) <| nl, (Eq.trans (b := (fun t_6_m1 : Bool => mk [(6, bv t_6_m1)] []) (decide (n_0 ≤ high_2))) (by kernel_rfl) (congrArg (fun t_6_m1 : Bool => mk [(6, bv t_6_m1)] []) (by first | rfl | (simp [(iDec.2 hc1)]; done) | (simp [(iDec.2 hc1)]; omega))))⟩
    · exact ⟨_, sq z92 (oMv rfl rfl) <| sq z92 (oMv rfl rfl) <| sq z92 (oBi rfl rfl rfl rfl) <| sq z92 (oMv rfl rfl) <| sgF rfl rfl (byF iDec hc1) rfl <| sgF rfl rfl (byF iDec hc1) rfl <| sgF rfl rfl (byF iDec hc1) rfl <| sq z92 (oPkF rfl rfl (byF iDec hc1) rfl) <| sq z92 (oAsI rfl rfl) <| nl, (Eq.trans (b := (fun t_6_m1 : Bool => mk [(6, bv t_6_m1)] []) false) (by kernel_rfl) (congrArg (fun t_6_m1 : Bool => mk [(6, bv t_6_m1)] []) (by first | rfl | (simp [(byF iDec hc1)]; done) | (simp [(byF iDec hc1)]; omega))))⟩
  · refine Unw.seq ?_
    refine Go.ret (Unw.ret ?_)
    cases h
    exact Fin_ret (fin_of rfl rF92 rfl (by kernel_rfl))
theorem L_impl_ValidRoom {r_0 : S_Room} {r : Bool} (h : impl_ValidRoom r_0 = some r) : FL Try.prog cfg 234 [.im 2 true [.sc (.int .i64 r_0.Width), .sc (.int .i64 r_0.Length)]] = some ([(false, [.im 0 (.sc (.bool r))])], []) := by
  unfold impl_ValidRoom at h
  refine FL_goS (A := [(0, .v true [.im 2 (.sc (.int .i64 r_0.Width)), .im 2 (.sc (.int .i64 r_0.Length))])]) (B := [(0, none)]) (nt := 11) rfl rfl Try.func234 rfl rfl rfl rfl ?_
  refine Go.seq ?_
  refine Go.r0 c234 rfl rfl (sq z234 (oBx rfl tF99 rfl (tkI (tkI tk0))) <| sq z234 (oAsI rfl rfl) <| nl) ?_
  refine Unw.seq ?_
  refine Go.seq ?_
  obtain ⟨x5, hx5, h⟩ := bs h
  obtain ⟨t_2_m1, hm2, h⟩ := bs h
  refine Go.rX c234 rfl rfl rfl (mk [(2, bv t_2_m1)] []) ?_ ?_
  · by_cases hc1 : x5 = true
    · rw [if_pos hc1] at hm2
      obtain ⟨x9, hx9, hm2⟩ := bs hm2
      cases hm2
      exact ⟨_, sq z234 (oFA (r' := .mp 1 0 0) rfl fF99_0 rfl rfl) <| sq z234 (oLd (cs := [.im 0 _]) rfl tF2 rfl rfl) <| sq z234 (oCa (xs := [.v false [.im 0 _], .v false [.im 0 _], .v false [.im 0 _]]) (vs := [(false, [.im 0 _])]) (v := .v false [.im 0 _]) (L_impl_within hx5) (.inl rfl) rfl kF92_2_2_2 rfl (ppC rfl (ppC rfl (ppC rfl pp0))) rfl rfl pb0 rfl rfl rfl) <| sq z234 (oMv rfl rfl) <| sgT z234 rfl rfl (Iff.rfl.2 hc1) (oFA (r' := .mp 1 0 1) rfl fF99_1 rfl rfl) <| sgT z234 rfl rfl (Iff.rfl.2 hc1) (oLd (cs := [.im 0 _]) rfl tF2 rfl rfl) <| sgT z234 rfl rfl (Iff.rfl.2 hc1) (oCa (xs := [.v false [.im 0 _], .v false [.im 0 _], .v false [.im 0 _]]) (vs := [(false, [.im 0 _])]) (v := .v false [.im 0 _]) (L_impl_within hx9) (.inl rfl) rfl kF92_2_2_2 rfl (ppC rfl (ppC rfl (ppC rfl pp0))) rfl rfl pb0 rfl rfl rfl) <| sq z234 (oPkT rfl rfl (Iff.rfl.2 hc1) rfl) <| sq z234 (oAsI rfl rfl) <| nl, (by kernel_rfl)⟩
    · rw [if_neg hc1] at hm2
      cases hm2
      exact ⟨_, sq z234 (oFA (r' := .mp 1 0 0) rfl fF99_0 rfl rfl) <| sq z234 (oLd (cs := [.im 0 _]) rfl tF2 rfl rfl) <| sq z234 (oCa (xs := [.v false [.im 0 _], .v false [.im 0 _], .v false [.im 0 _]]) (vs := [(false, [.im 0 _])]) (v := .v false [.im 0 _]) (L_impl_within hx5) (.inl rfl) rfl kF92_2_2_2 rfl (ppC rfl (ppC rfl (ppC rfl pp0))) rfl rfl pb0 rfl rfl rfl) <| sq z234 (oMv rfl rfl) <| sgF rfl rfl (byF Iff.rfl hc1) rfl <| sgF rfl rfl (byF Iff.rfl hc1) rfl <| sgF rfl rfl (byF Iff.rfl hc1) rfl <| sq z234 (oPkF rfl rfl (byF Iff.rfl hc1) rfl) <| sq z234 (oAsI rfl rfl) <| nl, (by kernel_rfl)⟩
  · refine Unw.seq ?_
    refine Go.ret (Unw.ret ?_)
    cases h
    exact Fin_ret (fin_of rfl rF234 rfl (by kernel_rfl))
theorem L_impl_ValidStock {k_0 : S_Stock} {r : Bool} (h : impl_ValidStock k_0 = some r) : FL Try.prog cfg 235 [.im 2 true [.sc (.int .i64 k_0.Board), .sc (.int .i64 k_0.Wide), .sc (.int .i64 k_0.Least), .sc (.int .i64 k_0.Stagger)]] = some ([(false, [.im 0 (.sc (.bool r))])], []) := by
  unfold impl_ValidStock at h
  refine FL_goS (A := [(0, .v true [.im 2 (.sc (.int .i64 k_0.Board)), .im 2 (.sc (.int .i64 k_0.Wide)), .im 2 (.sc (.int .i64 k_0.Least)), .im 2 (.sc (.int .i64 k_0.Stagger))])]) (B := [(0, none)]) (nt := 26) rfl rfl Try.func235 rfl rfl rfl rfl ?_
  refine Go.seq ?_
  refine Go.r0 c235 rfl rfl (sq z235 (oBx rfl tF101 rfl (tkI (tkI (tkI (tkI tk0))))) <| sq z235 (oAsI rfl rfl) <| nl) ?_
  refine Unw.seq ?_
  refine Go.seq ?_
  obtain ⟨x5, hx5, h⟩ := bs h
  obtain ⟨t_2_m1, hm4, h⟩ := bs h
  refine Go.rX c235 rfl rfl rfl (mk [(2, bv t_2_m1)] []) ?_ ?_
  · by_cases hc1 : x5 = true
    · rw [if_pos hc1] at hm4
      obtain ⟨x9, hx9, hm4⟩ := bs hm4
      by_cases hc2 : x9 = true
      · rw [if_pos hc2] at hm4
        obtain ⟨x16, hx16, hm4⟩ := bs hm4
        by_cases hc3 : x16 = true
        · rw [if_pos hc3] at hm4
          obtain ⟨x23, hx23, hm4⟩ := bs hm4
          obtain ⟨x24, hx24, hm4⟩ := bs hm4
          cases hm4
          exact ⟨_, sq z235 (oFA (r' := .mp 1 0 0) rfl fF101_0 rfl rfl) <| sq z235 (oLd (cs := [.im 0 _]) rfl tF2 rfl rfl) <| sq z235 (oCa (xs := [.v false [.im 0 _], .v false [.im 0 _], .v false [.im 0 _]]) (vs := [(false, [.im 0 _])]) (v := .v false [.im 0 _]) (L_impl_within hx5) (.inl rfl) rfl kF92_2_2_2 rfl (ppC rfl (ppC rfl (ppC rfl pp0))) rfl rfl pb0 rfl rfl rfl) <| sq z235 (oMv rfl rfl) <| sgT z235 rfl rfl (Iff.rfl.2 hc1) (oFA (r' := .mp 1 0 1) rfl fF101_1 rfl rfl) <| sgT z235 rfl rfl (Iff.rfl.2 hc1) (oLd (cs := [.im 0 _]) rfl tF2 rfl rfl) <| sgT z235 rfl rfl (Iff.rfl.2 hc1) (oCa (xs := [.v false [.im 0 _], .v false [.im 0 _], .v false [.im 0 _]]) (vs := [(false, [.im 0 _])]) (v := .v false [.im 0 _]) (L_impl_within hx9) (.inl rfl) rfl kF92_2_2_2 rfl (ppC rfl (ppC rfl (ppC rfl pp0))) rfl rfl pb0 rfl rfl rfl) <| sq z235 (oPkT rfl rfl (Iff.rfl.2 hc1) rfl) <| sq z235 (oMv rfl rfl) <| sgT z235 rfl rfl (Iff.rfl.2 hc2) (oFA (r' := .mp 1 0 2) rfl fF101_2 rfl rfl) <| sgT z235 rfl rfl (Iff.rfl.2 hc2) (oLd (cs := [.im 0 _]) rfl tF2 rfl rfl) <| sgT z235 rfl rfl (Iff.rfl.2 hc2) (oFA (r' := .mp 1 0 0) rfl fF101_0 rfl rfl) <| sgT z235 rfl rfl (Iff.rfl.2 hc2) (oLd (cs := [.im 0 _]) rfl tF2 rfl rfl) <| sgT z235 rfl rfl (Iff.rfl.2 hc2) (oCa (xs := [.v false [.im 0 _], .v false [.im 0 _], .v false [.im 0 _]]) (vs := [(false, [.im 0 _])]) (v := .v false [.im 0 _]) (L_impl_within hx16) (.inl rfl) rfl kF92_2_2_2 rfl (ppC rfl (ppC rfl (ppC rfl pp0))) rfl rfl pb0 rfl rfl rfl) <| sq z235 (oPkT rfl rfl (Iff.rfl.2 hc2) rfl) <| sq z235 (oMv rfl rfl) <| sgT z235 rfl rfl (Iff.rfl.2 hc3) (oFA (r' := .mp 1 0 3) rfl fF101_3 rfl rfl) <| sgT z235 rfl rfl (Iff.rfl.2 hc3) (oLd (cs := [.im 0 _]) rfl tF2 rfl rfl) <| sgT z235 rfl rfl (Iff.rfl.2 hc3) (oFA (r' := .mp 1 0 0) rfl fF101_0 rfl rfl) <| sgT z235 rfl rfl (Iff.rfl.2 hc3) (oLd (cs := [.im 0 _]) rfl tF2 rfl rfl) <| sgT z235 rfl rfl (Iff.rfl.2 hc3) (oQuo rfl hx23 rfl rfl) <| sgT z235 rfl rfl (Iff.rfl.2 hc3) (oCa (xs := [.v false [.im 0 _], .v false [.im 0 _], .v false [.im 0 _]]) (vs := [(false, [.im 0 _])]) (v := .v false [.im 0 _]) (L_impl_within hx24) (.inl rfl) rfl kF92_2_2_2 rfl (ppC rfl (ppC rfl (ppC rfl pp0))) rfl rfl pb0 rfl rfl rfl) <| sq z235 (oPkT rfl rfl (Iff.rfl.2 hc3) rfl) <| sq z235 (oAsI rfl rfl) <| nl, (by kernel_rfl)⟩
        · rw [if_neg hc3] at hm4
          cases hm4
          exact ⟨_, sq z235 (oFA (r' := .mp 1 0 0) rfl fF101_0 rfl rfl) <| sq z235 (oLd (cs := [.im 0 _]) rfl tF2 rfl rfl) <| sq z235 (oCa (xs := [.v false [.im 0 _], .v false [.im 0 _], .v false [.im 0 _]]) (vs := [(false, [.im 0 _])]) (v := .v false [.im 0 _]) (L_impl_within hx5) (.inl rfl) rfl kF92_2_2_2 rfl (ppC rfl (ppC rfl (ppC rfl pp0))) rfl rfl pb0 rfl rfl rfl) <| sq z235 (oMv rfl rfl) <| sgT z235 rfl rfl (Iff.rfl.2 hc1) (oFA (r' := .mp 1 0 1) rfl fF101_1 rfl rfl) <| sgT z235 rfl rfl (Iff.rfl.2 hc1) (oLd (cs := [.im 0 _]) rfl tF2 rfl rfl) <| sgT z235 rfl rfl (Iff.rfl.2 hc1) (oCa (xs := [.v false [.im 0 _], .v false [.im 0 _], .v false [.im 0 _]]) (vs := [(false, [.im 0 _])]) (v := .v false [.im 0 _]) (L_impl_within hx9) (.inl rfl) rfl kF92_2_2_2 rfl (ppC rfl (ppC rfl (ppC rfl pp0))) rfl rfl pb0 rfl rfl rfl) <| sq z235 (oPkT rfl rfl (Iff.rfl.2 hc1) rfl) <| sq z235 (oMv rfl rfl) <| sgT z235 rfl rfl (Iff.rfl.2 hc2) (oFA (r' := .mp 1 0 2) rfl fF101_2 rfl rfl) <| sgT z235 rfl rfl (Iff.rfl.2 hc2) (oLd (cs := [.im 0 _]) rfl tF2 rfl rfl) <| sgT z235 rfl rfl (Iff.rfl.2 hc2) (oFA (r' := .mp 1 0 0) rfl fF101_0 rfl rfl) <| sgT z235 rfl rfl (Iff.rfl.2 hc2) (oLd (cs := [.im 0 _]) rfl tF2 rfl rfl) <| sgT z235 rfl rfl (Iff.rfl.2 hc2) (oCa (xs := [.v false [.im 0 _], .v false [.im 0 _], .v false [.im 0 _]]) (vs := [(false, [.im 0 _])]) (v := .v false [.im 0 _]) (L_impl_within hx16) (.inl rfl) rfl kF92_2_2_2 rfl (ppC rfl (ppC rfl (ppC rfl pp0))) rfl rfl pb0 rfl rfl rfl) <| sq z235 (oPkT rfl rfl (Iff.rfl.2 hc2) rfl) <| sq z235 (oMv rfl rfl) <| sgF rfl rfl (byF Iff.rfl hc3) rfl <| sgF rfl rfl (byF Iff.rfl hc3) rfl <| sgF rfl rfl (byF Iff.rfl hc3) rfl <| sgF rfl rfl (byF Iff.rfl hc3) rfl <| sgF rfl rfl (byF Iff.rfl hc3) rfl <| sgF rfl rfl (byF Iff.rfl hc3) rfl <| sq z235 (oPkF rfl rfl (byF Iff.rfl hc3) rfl) <| sq z235 (oAsI rfl rfl) <| nl, (by kernel_rfl)⟩
      · rw [if_neg hc2] at hm4
        cases hm4
        exact ⟨_, sq z235 (oFA (r' := .mp 1 0 0) rfl fF101_0 rfl rfl) <| sq z235 (oLd (cs := [.im 0 _]) rfl tF2 rfl rfl) <| sq z235 (oCa (xs := [.v false [.im 0 _], .v false [.im 0 _], .v false [.im 0 _]]) (vs := [(false, [.im 0 _])]) (v := .v false [.im 0 _]) (L_impl_within hx5) (.inl rfl) rfl kF92_2_2_2 rfl (ppC rfl (ppC rfl (ppC rfl pp0))) rfl rfl pb0 rfl rfl rfl) <| sq z235 (oMv rfl rfl) <| sgT z235 rfl rfl (Iff.rfl.2 hc1) (oFA (r' := .mp 1 0 1) rfl fF101_1 rfl rfl) <| sgT z235 rfl rfl (Iff.rfl.2 hc1) (oLd (cs := [.im 0 _]) rfl tF2 rfl rfl) <| sgT z235 rfl rfl (Iff.rfl.2 hc1) (oCa (xs := [.v false [.im 0 _], .v false [.im 0 _], .v false [.im 0 _]]) (vs := [(false, [.im 0 _])]) (v := .v false [.im 0 _]) (L_impl_within hx9) (.inl rfl) rfl kF92_2_2_2 rfl (ppC rfl (ppC rfl (ppC rfl pp0))) rfl rfl pb0 rfl rfl rfl) <| sq z235 (oPkT rfl rfl (Iff.rfl.2 hc1) rfl) <| sq z235 (oMv rfl rfl) <| sgF rfl rfl (byF Iff.rfl hc2) rfl <| sgF rfl rfl (byF Iff.rfl hc2) rfl <| sgF rfl rfl (byF Iff.rfl hc2) rfl <| sgF rfl rfl (byF Iff.rfl hc2) rfl <| sgF rfl rfl (byF Iff.rfl hc2) rfl <| sq z235 (oPkF rfl rfl (byF Iff.rfl hc2) rfl) <| sq z235 (oMv rfl rfl) <| sgF rfl rfl rfl rfl <| sgF rfl rfl rfl rfl <| sgF rfl rfl rfl rfl <| sgF rfl rfl rfl rfl <| sgF rfl rfl rfl rfl <| sgF rfl rfl rfl rfl <| sq z235 (oPkF rfl rfl rfl rfl) <| sq z235 (oAsI rfl rfl) <| nl, (by kernel_rfl)⟩
    · rw [if_neg hc1] at hm4
      cases hm4
      exact ⟨_, sq z235 (oFA (r' := .mp 1 0 0) rfl fF101_0 rfl rfl) <| sq z235 (oLd (cs := [.im 0 _]) rfl tF2 rfl rfl) <| sq z235 (oCa (xs := [.v false [.im 0 _], .v false [.im 0 _], .v false [.im 0 _]]) (vs := [(false, [.im 0 _])]) (v := .v false [.im 0 _]) (L_impl_within hx5) (.inl rfl) rfl kF92_2_2_2 rfl (ppC rfl (ppC rfl (ppC rfl pp0))) rfl rfl pb0 rfl rfl rfl) <| sq z235 (oMv rfl rfl) <| sgF rfl rfl (byF Iff.rfl hc1) rfl <| sgF rfl rfl (byF Iff.rfl hc1) rfl <| sgF rfl rfl (byF Iff.rfl hc1) rfl <| sq z235 (oPkF rfl rfl (byF Iff.rfl hc1) rfl) <| sq z235 (oMv rfl rfl) <| sgF rfl rfl rfl rfl <| sgF rfl rfl rfl rfl <| sgF rfl rfl rfl rfl <| sgF rfl rfl rfl rfl <| sgF rfl rfl rfl rfl <| sq z235 (oPkF rfl rfl rfl rfl) <| sq z235 (oMv rfl rfl) <| sgF rfl rfl rfl rfl <| sgF rfl rfl rfl rfl <| sgF rfl rfl rfl rfl <| sgF rfl rfl rfl rfl <| sgF rfl rfl rfl rfl <| sgF rfl rfl rfl rfl <| sq z235 (oPkF rfl rfl rfl rfl) <| sq z235 (oAsI rfl rfl) <| nl, (by kernel_rfl)⟩
  · refine Unw.seq ?_
    refine Go.ret (Unw.ret ?_)
    cases h
    exact Fin_ret (fin_of rfl rF235 rfl (by kernel_rfl))
theorem L_impl_roomCode {r_0 : S_Room} {k_1 : S_Stock} {r : Int} (h : impl_roomCode r_0 k_1 = some r) : FL Try.prog cfg 162 [.im 2 true [.sc (.int .i64 r_0.Width), .sc (.int .i64 r_0.Length)], .im 2 true [.sc (.int .i64 k_1.Board), .sc (.int .i64 k_1.Wide), .sc (.int .i64 k_1.Least), .sc (.int .i64 k_1.Stagger)]] = some ([(false, [.im 0 (.sc (.int .i64 r))])], []) := by
  unfold impl_roomCode at h
  refine FL_goS (A := [(0, .v true [.im 2 (.sc (.int .i64 r_0.Width)), .im 2 (.sc (.int .i64 r_0.Length))]), (1, .v true [.im 2 (.sc (.int .i64 k_1.Board)), .im 2 (.sc (.int .i64 k_1.Wide)), .im 2 (.sc (.int .i64 k_1.Least)), .im 2 (.sc (.int .i64 k_1.Stagger))])]) (B := [(0, none), (1, none)]) (nt := 13) rfl rfl Try.func162 rfl rfl rfl rfl ?_
  refine Go.seq ?_
  refine Go.r0 c162 rfl rfl (sq z162 (oBx rfl tF99 rfl (tkI (tkI tk0))) <| sq z162 (oBx rfl tF101 rfl (tkI (tkI (tkI (tkI tk0))))) <| sq z162 (oAsI rfl rfl) <| nl) ?_
  refine Unw.seq ?_
  refine Go.seq ?_
  refine Go.seq ?_
  obtain ⟨x6, hx6, h⟩ := bs h
  obtain ⟨t_12_m1, hm3, h⟩ := bs h
  refine Go.rX c162 rfl rfl rfl (mk [(12, bv t_12_m1)] []) ?_ ?_
  · by_cases hc1 : x6 = true
    · rw [if_pos hc1] at hm3
      obtain ⟨x10, hx10, hm3⟩ := bs hm3
      cases hm3
      exact ⟨_, sq z162 (oLd (cs := [.im 0 _, .im 0 _]) rfl tF99 rfl rfl) <| sq z162 (oCa (xs := [.v true [.im 0 _, .im 0 _]]) (vs := [(false, [.im 0 _])]) (v := .v false [.im 0 _]) (L_impl_ValidRoom hx6) (.inl rfl) rfl kF234_99 rfl (ppC rfl pp0) rfl rfl pb0 rfl rfl rfl) <| sq z162 (oUn rfl rfl rfl) <| sq z162 (oMv rfl rfl) <| sgT z162 rfl rfl (nF (Iff.rfl.2 hc1)) (oLd (cs := [.im 0 _, .im 0 _, .im 0 _, .im 0 _]) rfl tF101 rfl rfl) <| sgT z162 rfl rfl (nF (Iff.rfl.2 hc1)) (oCa (xs := [.v true [.im 0 _, .im 0 _, .im 0 _, .im 0 _]]) (vs := [(false, [.im 0 _])]) (v := .v false [.im 0 _]) (L_impl_ValidStock hx10) (.inl rfl) rfl kF235_101 rfl (ppC rfl pp0) rfl rfl pb0 rfl rfl rfl) <| sgT z162 rfl rfl (nF (Iff.rfl.2 hc1)) (oUn rfl rfl rfl) <| sq z162 (oPkF rfl rfl (nF (Iff.rfl.2 hc1)) rfl) <| nl, (by kernel_rfl)⟩
    · rw [if_neg hc1] at hm3
      cases hm3
      exact ⟨_, sq z162 (oLd (cs := [.im 0 _, .im 0 _]) rfl tF99 rfl rfl) <| sq z162 (oCa (xs := [.v true [.im 0 _, .im 0 _]]) (vs := [(false, [.im 0 _])]) (v := .v false [.im 0 _]) (L_impl_ValidRoom hx6) (.inl rfl) rfl kF234_99 rfl (ppC rfl pp0) rfl rfl pb0 rfl rfl rfl) <| sq z162 (oUn rfl rfl rfl) <| sq z162 (oMv rfl rfl) <| sgF rfl rfl (nT (byF Iff.rfl hc1)) rfl <| sgF rfl rfl (nT (byF Iff.rfl hc1)) rfl <| sgF rfl rfl (nT (byF Iff.rfl hc1)) rfl <| sq z162 (oPkT rfl rfl (nT (byF Iff.rfl hc1)) rfl) <| nl, (by kernel_rfl)⟩
  · refine Unw.seq ?_
    by_cases hc2 : t_12_m1 = true
    · rw [if_pos hc2] at h
      refine Go.condT rfl (Iff.rfl.2 hc2) ?_
      refine Go.seq ?_
      refine Go.r0 c162 rfl rfl (sq z162 (oAsI rfl rfl) <| nl) ?_
      refine Unw.seq ?_
      refine Go.ret (Unw.ret ?_)
      cases h
      exact Fin_ret (fin_of rfl rF162 rfl (by kernel_rfl))
    · rw [if_neg hc2] at h
      refine Go.condF rfl (byF Iff.rfl hc2) ?_
      refine Go.skip ?_
      refine Unw.seq ?_
      refine Go.seq ?_
      refine Go.r0 c162 rfl rfl (sq z162 (oAsI rfl rfl) <| nl) ?_
      refine Unw.seq ?_
      refine Go.ret (Unw.ret ?_)
      cases h
      exact Fin_ret (fin_of rfl rF162 rfl (by kernel_rfl))
theorem L_impl_upDiv {a_0 : Int} {b_1 : Int} {r : Int} (h : impl_upDiv a_0 b_1 = some r) : FL Try.prog cfg 172 [.im 2 false [.sc (.int .i64 a_0)], .im 2 false [.sc (.int .i64 b_1)]] = some ([(false, [.im 0 (.sc (.int .i64 r))])], []) := by
  unfold impl_upDiv at h
  refine FL_goS (A := [(0, .v false [.im 2 (.sc (.int .i64 a_0))]), (1, .v false [.im 2 (.sc (.int .i64 b_1))])]) (B := [(0, none), (1, none)]) (nt := 11) rfl rfl Try.func172 rfl rfl rfl rfl ?_
  refine Go.seq ?_
  refine Go.r0 c172 rfl rfl (sq z172 (oAsI rfl rfl) <| nl) ?_
  refine Unw.seq ?_
  refine Go.seq ?_
  obtain ⟨x10, hx10, h⟩ := bs h
  refine Go.r0 c172 rfl rfl (sq z172 (oMv rfl rfl) <| sq z172 (oMv rfl rfl) <| sq z172 (oBi rfl rfl rfl rfl) <| sq z172 (oBi rfl rfl rfl rfl) <| sq z172 (oMv rfl rfl) <| sq z172 (oQuo rfl hx10 rfl rfl) <| sq z172 (oAsI rfl rfl) <| nl) ?_
  refine Unw.seq ?_
  refine Go.ret (Unw.ret ?_)
  cases h
  exact Fin_ret (fin_of rfl rF172 rfl (by kernel_rfl))
theorem L_impl_rows {r_0 : S_Room} {k_1 : S_Stock} {r : Int} (h : impl_rows r_0 k_1 = some r) : FL Try.prog cfg 231 [.im 2 true [.sc (.int .i64 r_0.Width), .sc (.int .i64 r_0.Length)], .im 2 true [.sc (.int .i64 k_1.Board), .sc (.int .i64 k_1.Wide), .sc (.int .i64 k_1.Least), .sc (.int .i64 k_1.Stagger)]] = some ([(false, [.im 0 (.sc (.int .i64 r))])], []) := by
  unfold impl_rows at h
  refine FL_goS (A := [(0, .v true [.im 2 (.sc (.int .i64 r_0.Width)), .im 2 (.sc (.int .i64 r_0.Length))]), (1, .v true [.im 2 (.sc (.int .i64 k_1.Board)), .im 2 (.sc (.int .i64 k_1.Wide)), .im 2 (.sc (.int .i64 k_1.Least)), .im 2 (.sc (.int .i64 k_1.Stagger))])]) (B := [(0, none), (1, none)]) (nt := 10) rfl rfl Try.func231 rfl rfl rfl rfl ?_
  refine Go.seq ?_
  refine Go.r0 c231 rfl rfl (sq z231 (oBx rfl tF99 rfl (tkI (tkI tk0))) <| sq z231 (oBx rfl tF101 rfl (tkI (tkI (tkI (tkI tk0))))) <| sq z231 (oAsI rfl rfl) <| nl) ?_
  refine Unw.seq ?_
  refine Go.seq ?_
  obtain ⟨x9, hx9, h⟩ := bs h
  refine Go.r0 c231 rfl rfl (sq z231 (oFA (r' := .mp 2 0 1) rfl fF99_1 rfl rfl) <| sq z231 (oLd (cs := [.im 0 _]) rfl tF2 rfl rfl) <| sq z231 (oFA (r' := .mp 3 0 1) rfl fF101_1 rfl rfl) <| sq z231 (oLd (cs := [.im 0 _]) rfl tF2 rfl rfl) <| sq z231 (oCa (xs := [.v false [.im 0 _], .v false [.im 0 _]]) (vs := [(false, [.im 0 _])]) (v := .v false [.im 0 _]) (L_impl_upDiv hx9) (.inl rfl) rfl kF172_2_2 rfl (ppC rfl (ppC rfl pp0)) rfl rfl pb0 rfl rfl rfl) <| sq z231 (oAsI rfl rfl) <| nl) ?_
  refine Unw.seq ?_
  refine Go.ret (Unw.ret ?_)
  cases h
  exact Fin_ret (fin_of rfl rF231 rfl (by kernel_rfl))
theorem L_impl_RowCount {r_0 : S_Room} {k_1 : S_Stock} {r : (Int × Int)} (h : impl_RowCount r_0 k_1 = some r) : FL Try.prog cfg 158 [.im 2 true [.sc (.int .i64 r_0.Width), .sc (.int .i64 r_0.Length)], .im 2 true [.sc (.int .i64 k_1.Board), .sc (.int .i64 k_1.Wide), .sc (.int .i64 k_1.Least), .sc (.int .i64 k_1.Stagger)]] = some ([(false, [.im 0 (.sc (.int .i64 r.1))]), (false, [.im 0 (.sc (.int .i64 r.2))])], []) := by
  unfold impl_RowCount at h
  refine FL_goS (A := [(0, .v true [.im 2 (.sc (.int .i64 r_0.Width)), .im 2 (.sc (.int .i64 r_0.Length))]), (1, .v true [.im 2 (.sc (.int .i64 k_1.Board)), .im 2 (.sc (.int .i64 k_1.Wide)), .im 2 (.sc (.int .i64 k_1.Least)), .im 2 (.sc (.int .i64 k_1.Stagger))])]) (B := [(0, none), (1, none)]) (nt := 19) rfl rfl Try.func158 rfl rfl rfl rfl ?_
  refine Go.seq ?_
  refine Go.r0 c158 rfl rfl (sq z158 (oBx rfl tF99 rfl (tkI (tkI tk0))) <| sq z158 (oBx rfl tF101 rfl (tkI (tkI (tkI (tkI tk0))))) <| sq z158 (oAsI rfl rfl) <| sq z158 (oAsI rfl rfl) <| nl) ?_
  refine Unw.seq ?_
  refine Go.seq ?_
  refine Go.block ?_
  refine Go.seq ?_
  obtain ⟨x9, hx9, h⟩ := bs h
  refine Go.r0 c158 rfl rfl (sq z158 (oLd (cs := [.im 0 _, .im 0 _]) rfl tF99 rfl rfl) <| sq z158 (oLd (cs := [.im 0 _, .im 0 _, .im 0 _, .im 0 _]) rfl tF101 rfl rfl) <| sq z158 (oCa (xs := [.v true [.im 0 _, .im 0 _], .v true [.im 0 _, .im 0 _, .im 0 _, .im 0 _]]) (vs := [(false, [.im 0 _])]) (v := .v false [.im 0 _]) (L_impl_roomCode hx9) (.inl rfl) rfl kF162_99_101 rfl (ppC rfl (ppC rfl pp0)) rfl rfl pb0 rfl rfl rfl) <| sq z158 (oBi rfl rfl rfl rfl) <| sq z158 (oAsI rfl rfl) <| nl) ?_
  refine Unw.seq ?_
  by_cases hc1 : x9 ≠ 0
  · rw [if_pos hc1] at h
    refine Go.condT rfl (iNe.2 hc1) ?_
    refine Go.seq ?_
    refine Go.r0 c158 rfl rfl (sq z158 (oAsI rfl rfl) <| sq z158 (oAsI rfl rfl) <| nl) ?_
    refine Unw.seq ?_
    refine Go.ret (Unw.ret ?_)
    cases h
    exact Fin_ret (fin_of rfl rF158 rfl (by kernel_rfl))
  · rw [if_neg hc1] at h
    refine Go.condF rfl (byF iNe hc1) ?_
    refine Go.seq ?_
    obtain ⟨x14, hx14, h⟩ := bs h
    refine Go.r0 c158 rfl rfl (sq z158 (oLd (cs := [.im 0 _, .im 0 _]) rfl tF99 rfl rfl) <| sq z158 (oLd (cs := [.im 0 _, .im 0 _, .im 0 _, .im 0 _]) rfl tF101 rfl rfl) <| sq z158 (oCa (xs := [.v true [.im 0 _, .im 0 _], .v true [.im 0 _, .im 0 _, .im 0 _, .im 0 _]]) (vs := [(false, [.im 0 _])]) (v := .v false [.im 0 _]) (L_impl_rows hx14) (.inl rfl) rfl kF231_99_101 rfl (ppC rfl (ppC rfl pp0)) rfl rfl pb0 rfl rfl rfl) <| sq z158 (oBi rfl rfl rfl rfl) <| sq z158 (oAsI rfl rfl) <| nl) ?_
    refine Unw.seq ?_
    by_cases hc2 : x14 > 40
    · rw [if_pos hc2] at h
      refine Go.condT rfl (iDec.2 hc2) ?_
      refine Go.seq ?_
      refine Go.r0 c158 rfl rfl (sq z158 (oAsI rfl rfl) <| sq z158 (oAsI rfl rfl) <| nl) ?_
      refine Unw.seq ?_
      refine Go.ret (Unw.ret ?_)
      cases h
      exact Fin_ret (fin_of rfl rF158 rfl (by kernel_rfl))
    · rw [if_neg hc2] at h
      refine Go.condF rfl (byF iDec hc2) ?_
      refine Go.skip ?_
      refine Unw.blk ?_
      refine Unw.seq ?_
      refine Go.seq ?_
      obtain ⟨x18, hx18, h⟩ := bs h
      refine Go.r0 c158 rfl rfl (sq z158 (oLd (cs := [.im 0 _, .im 0 _]) rfl tF99 rfl rfl) <| sq z158 (oLd (cs := [.im 0 _, .im 0 _, .im 0 _, .im 0 _]) rfl tF101 rfl rfl) <| sq z158 (oCa (xs := [.v true [.im 0 _, .im 0 _], .v true [.im 0 _, .im 0 _, .im 0 _, .im 0 _]]) (vs := [(false, [.im 0 _])]) (v := .v false [.im 0 _]) (L_impl_rows hx18) (.inl rfl) rfl kF231_99_101 rfl (ppC rfl (ppC rfl pp0)) rfl rfl pb0 rfl rfl rfl) <| sq z158 (oAsI rfl rfl) <| sq z158 (oAsI rfl rfl) <| nl) ?_
      refine Unw.seq ?_
      refine Go.ret (Unw.ret ?_)
      cases h
      exact Fin_ret (fin_of rfl rF158 rfl (by kernel_rfl))
theorem L_impl_makeRow {r_0 : S_Room} {k_1 : S_Stock} {first_2 : Int} {r : (S_row × Int)} (h : impl_makeRow r_0 k_1 first_2 = some r) : FL Try.prog cfg 232 [.im 2 true [.sc (.int .i64 r_0.Width), .sc (.int .i64 r_0.Length)], .im 2 true [.sc (.int .i64 k_1.Board), .sc (.int .i64 k_1.Wide), .sc (.int .i64 k_1.Least), .sc (.int .i64 k_1.Stagger)], .im 2 false [.sc (.int .i64 first_2)]] = some ([(true, [.ow 0 1 (List.map eI r.1.pieces), .ow 0 1 (List.map eI r.1.joints), .im 0 (.sc (.int .i64 r.1.last))]), (false, [.im 0 (.sc (.int .i64 r.2))])], []) := by
  unfold impl_makeRow at h
  refine FL_goS (A := [(0, .v true [.im 2 (.sc (.int .i64 r_0.Width)), .im 2 (.sc (.int .i64 r_0.Length))]), (1, .v true [.im 2 (.sc (.int .i64 k_1.Board)), .im 2 (.sc (.int .i64 k_1.Wide)), .im 2 (.sc (.int .i64 k_1.Least)), .im 2 (.sc (.int .i64 k_1.Stagger))]), (2, .v false [.im 2 (.sc (.int .i64 first_2))])]) (B := [(0, none), (1, none), (2, none)]) (nt := 68) rfl rfl Try.func232 rfl rfl rfl rfl ?_
  refine Go.seq ?_
  refine Go.r0 c232 rfl rfl (sq z232 (oBx rfl tF99 rfl (tkI (tkI tk0))) <| sq z232 (oBx rfl tF101 rfl (tkI (tkI (tkI (tkI tk0))))) <| sq z232 (oAl rfl tF255 (tkN (tkN (tkI tk0)))) <| sq z232 (oAsI rfl rfl) <| nl) ?_
  refine Unw.seq ?_
  refine Go.seq ?_
  refine Go.seq ?_
  obtain ⟨x15, hx15, h⟩ := bs h
  refine Go.r0 c232 rfl rfl (sq z232 (oMv rfl rfl) <| sq z232 (oFA (r' := .mp 4 0 2) rfl fF101_2 rfl rfl) <| sq z232 (oLd (cs := [.im 0 _]) rfl tF2 rfl rfl) <| sq z232 (oFA (r' := .mp 4 0 0) rfl fF101_0 rfl rfl) <| sq z232 (oLd (cs := [.im 0 _]) rfl tF2 rfl rfl) <| sq z232 (oCa (xs := [.v false [.im 2 _], .v false [.im 0 _], .v false [.im 0 _]]) (vs := [(false, [.im 0 _])]) (v := .v false [.im 0 _]) (L_impl_within hx15) (.inl rfl) rfl kF92_2_2_2 rfl (ppC rfl (ppC rfl (ppC rfl pp0))) rfl rfl pb0 rfl rfl rfl) <| sq z232 (oUn rfl rfl rfl) <| nl) ?_
  refine Unw.seq ?_
  by_cases hc1 : x15 = true
  · rw [if_pos hc1] at h
    refine Go.condF rfl (nF (Iff.rfl.2 hc1)) ?_
    refine Go.skip ?_
    refine Unw.seq ?_
    refine Go.seq ?_
    refine Go.seq ?_
    refine Go.r0 c232 rfl rfl (sq z232 (oFA (r' := .mp 3 0 0) rfl fF99_0 rfl rfl) <| sq z232 (oLd (cs := [.im 0 _]) rfl tF2 rfl rfl) <| sq z232 (oMv rfl rfl) <| sq z232 (oBi rfl rfl rfl rfl) <| nl) ?_
    refine Unw.seq ?_
    by_cases hc2 : r_0.Width ≤ first_2
    · rw [if_pos hc2] at h
      refine Go.condT rfl (iDec.2 hc2) ?_
      refine Go.seq ?_
      refine Go.r0 c232 rfl rfl (sq z232 (oFA (r' := .mp 3 0 0) rfl fF99_0 rfl rfl) <| sq z232 (oLd (cs := [.im 0 _]) rfl tF2 rfl rfl) <| sq z232 (oBS (es := List.map eI ([r_0.Width] : List Int)) rfl sF27 rfl (ptC rfl (fxI fx0) rfl pt0) (flat0 rfl fun _ => rfl)) <| sq z232 (oFA (r' := .mp 3 0 0) rfl fF99_0 rfl rfl) <| sq z232 (oLd (cs := [.im 0 _]) rfl tF2 rfl rfl) <| sq z232 (oBu (cs := [.own 24 0 0, .nil, .im 0 _]) rfl bF255 rfl) <| sq z232 (oSt tF255 rfl rfl rfl (tkO rfl rfl (tkN (tkI tk0))) rfl rfl rfl) <| sq z232 (oAsI rfl rfl) <| nl) ?_
      refine Unw.seq ?_
      refine Go.ret (Unw.ret ?_)
      cases h
      exact Fin_ret (fin_of rfl rF232 rfl (by kernel_rfl))
    · rw [if_neg hc2] at h
      refine Go.condF rfl (byF iDec hc2) ?_
      refine Go.skip ?_
      refine Unw.seq ?_
      refine Go.seq ?_
      refine Go.r0 c232 rfl rfl (sq z232 (oMv rfl rfl) <| sq z232 (oBS (es := List.map eI ([first_2] : List Int)) rfl sF27 rfl (ptC rfl (fxI fx0) rfl pt0) (flat0 rfl fun _ => rfl)) <| sq z232 (oBu (cs := [.own 29 0 0, .nil, .im 0 _]) rfl bF255 rfl) <| sq z232 (oAl rfl tF255 (tkN (tkN (tkI tk0)))) <| sq z232 (oSt tF255 rfl rfl rfl (tkO rfl rfl (tkN (tkI tk0))) rfl rfl rfl) <| nl) ?_
      refine Unw.seq ?_
      refine Go.seq ?_
      refine Go.seq ?_
      refine Go.r1 c232 rfl rfl (st1 := mk [(2, iv first_2), (3, .v false [.mp 3 0 0]), (4, .v false [.mp 4 0 0]), (6, .v false [.mp 6 0 0]), (8, .v false [.mp 8 0 0])] [(3, some ⟨0, 0, false, true, false, true, [⟨.imm, 0, 0, .sc (.int .i64 r_0.Width)⟩, ⟨.imm, 0, 0, .sc (.int .i64 r_0.Length)⟩]⟩), (4, some ⟨0, 0, false, true, false, true, [⟨.imm, 0, 0, .sc (.int .i64 k_1.Board)⟩, ⟨.imm, 0, 0, .sc (.int .i64 k_1.Wide)⟩, ⟨.imm, 0, 0, .sc (.int .i64 k_1.Least)⟩, ⟨.imm, 0, 0, .sc (.int .i64 k_1.Stagger)⟩]⟩), (6, some ⟨0, 0, false, true, false, true, [⟨.sh, 0, 0, .row 1 (List.map eI ([] : List Int))⟩, ⟨.sh, 0, 0, .row 1 (List.map eI ([] : List Int))⟩, ⟨.imm, 0, 0, .sc (.int .i64 0)⟩]⟩), (8, some ⟨0, 0, false, true, false, true, [⟨.sh, 0, 0, .row 1 (List.map eI ([first_2] : List Int))⟩, ⟨.sh, 0, 0, .row 1 (List.map eI ([] : List Int))⟩, ⟨.imm, 0, 0, .sc (.int .i64 0)⟩]⟩)]) (by kernel_rfl) (sq z232 (oMv rfl rfl) <| sq z232 (oAsI rfl rfl) <| nl) ?_
      refine Unw.seq ?_
      refine Go.block ?_
      obtain ⟨o, hl, h⟩ := bs h
      refine Go.lp c232 rfl _ (fun (s : (Int × (List Int) × (List Int) × Int)) => match s with | (at_9_l7, out_o8_0_l7, out_o8_1_l7, out_o8_2_l7) => mk [(3, .v false [.mp 3 0 0]), (4, .v false [.mp 4 0 0]), (6, .v false [.mp 6 0 0]), (8, .v false [.mp 8 0 0]), (9, iv at_9_l7)] [(3, some ⟨0, 0, false, true, false, true, [⟨.imm, 0, 0, .sc (.int .i64 r_0.Width)⟩, ⟨.imm, 0, 0, .sc (.int .i64 r_0.Length)⟩]⟩), (4, some ⟨0, 0, false, true, false, true, [⟨.imm, 0, 0, .sc (.int .i64 k_1.Board)⟩, ⟨.imm, 0, 0, .sc (.int .i64 k_1.Wide)⟩, ⟨.imm, 0, 0, .sc (.int .i64 k_1.Least)⟩, ⟨.imm, 0, 0, .sc (.int .i64 k_1.Stagger)⟩]⟩), (6, some ⟨0, 0, false, true, false, true, [⟨.sh, 0, 0, .row 1 (List.map eI ([] : List Int))⟩, ⟨.sh, 0, 0, .row 1 (List.map eI ([] : List Int))⟩, ⟨.imm, 0, 0, .sc (.int .i64 0)⟩]⟩), (8, some ⟨0, 0, false, true, false, true, [⟨.sh, 0, 0, .row 1 (List.map eI out_o8_0_l7)⟩, ⟨.sh, 0, 0, .row 1 (List.map eI out_o8_1_l7)⟩, ⟨.imm, 0, 0, .sc (.int .i64 out_o8_2_l7)⟩]⟩)]) (fun (o : ((List Int) × (List Int) × Int)) (p : Ex × St) => match o with | (out_o8_0_e0_7, out_o8_1_e0_7, out_o8_2_e0_7) => p.1 = .exit 0 ∧ p.2.norm ([4, 6, 8], [4, 6, 8]) = mk [(4, .v false [.mp 4 0 0]), (6, .v false [.mp 6 0 0]), (8, .v false [.mp 8 0 0])] [(4, some ⟨0, 0, false, true, false, true, [⟨.imm, 0, 0, .sc (.int .i64 k_1.Board)⟩, ⟨.imm, 0, 0, .sc (.int .i64 k_1.Wide)⟩, ⟨.imm, 0, 0, .sc (.int .i64 k_1.Least)⟩, ⟨.imm, 0, 0, .sc (.int .i64 k_1.Stagger)⟩]⟩), (6, some ⟨0, 0, false, true, false, true, [⟨.sh, 0, 0, .row 1 (List.map eI ([] : List Int))⟩, ⟨.sh, 0, 0, .row 1 (List.map eI ([] : List Int))⟩, ⟨.imm, 0, 0, .sc (.int .i64 0)⟩]⟩), (8, some ⟨0, 0, false, true, false, true, [⟨.sh, 0, 0, .row 1 (List.map eI out_o8_0_e0_7)⟩, ⟨.sh, 0, 0, .row 1 (List.map eI out_o8_1_e0_7)⟩, ⟨.imm, 0, 0, .sc (.int .i64 out_o8_2_e0_7)⟩]⟩)]) hl (by kernel_rfl) ?_ ?_ ?_
      · intro o p hp e
        obtain ⟨out_o8_0_e0_7, out_o8_1_e0_7, out_o8_2_e0_7⟩ := o
        exact nomatch (hp.1.symm.trans e)
      · rintro ⟨at_9_l7, out_o8_0_l7, out_o8_1_l7, out_o8_2_l7⟩ o h
        unfold impl_makeRow_l7 at h
        dsimp only at h
        refine Go.seq ?_
        refine Go.seq ?_
        refine Go.r0 c232 rfl rfl (sq z232 (oMv rfl rfl) <| sq z232 (oFA (r' := .mp 3 0 0) rfl fF99_0 rfl rfl) <| sq z232 (oLd (cs := [.im 0 _]) rfl tF2 rfl rfl) <| sq z232 (oBi rfl rfl rfl rfl) <| nl) ?_
        refine Unw.seq ?_
        by_cases hc6 : at_9_l7 < r_0.Width
        · rw [if_pos hc6] at h
          refine Go.condT rfl (iDec.2 hc6) ?_
          refine Go.skip ?_
          refine Unw.seq ?_
          refine Go.block ?_
          refine Go.seq ?_
          obtain ⟨x40, hx40, h⟩ := bs h
          refine Go.r0 c232 rfl rfl (sq z232 (oFA (r' := .mp 8 0 1) rfl fF255_1 rfl rfl) <| sq z232 (oLd (cs := [.own 8 0 1]) rfl tF27 rfl rfl) <| sq z232 (oMv rfl rfl) <| sq z232 (oBS (es := List.map eI ([at_9_l7] : List Int)) rfl sF27 rfl (ptC rfl (fxI fx0) rfl pt0) (flat0 rfl fun _ => rfl)) <| sq z232 (oApO (en := eI) (M := ([at_9_l7] : List Int)) rfl hx40 rfl sF27 rfl rfl uF27 (.inl ⟨_, rfl⟩) rfl rfl rfl rfl (el_own rfl rfl) (flat0 rfl fun _ => rfl)) <| sq z232 (oFA (r' := .mp 8 0 1) rfl fF255_1 rfl rfl) <| sq z232 (oSt tF27 rfl rfl rfl (tkO rfl rfl tk0) rfl rfl rfl) <| nl) ?_
          refine Unw.seq ?_
          refine Go.seq ?_
          refine Go.r1 c232 rfl rfl (st1 := mk [(3, .v false [.mp 3 0 0]), (4, .v false [.mp 4 0 0]), (6, .v false [.mp 6 0 0]), (8, .v false [.mp 8 0 0]), (9, iv at_9_l7)] [(3, some ⟨0, 0, false, true, false, true, [⟨.imm, 0, 0, .sc (.int .i64 r_0.Width)⟩, ⟨.imm, 0, 0, .sc (.int .i64 r_0.Length)⟩]⟩), (4, some ⟨0, 0, false, true, false, true, [⟨.imm, 0, 0, .sc (.int .i64 k_1.Board)⟩, ⟨.imm, 0, 0, .sc (.int .i64 k_1.Wide)⟩, ⟨.imm, 0, 0, .sc (.int .i64 k_1.Least)⟩, ⟨.imm, 0, 0, .sc (.int .i64 k_1.Stagger)⟩]⟩), (6, some ⟨0, 0, false, true, false, true, [⟨.sh, 0, 0, .row 1 (List.map eI ([] : List Int))⟩, ⟨.sh, 0, 0, .row 1 (List.map eI ([] : List Int))⟩, ⟨.imm, 0, 0, .sc (.int .i64 0)⟩]⟩), (8, some ⟨0, 0, false, true, false, true, [⟨.sh, 0, 0, .row 1 (List.map eI out_o8_0_l7)⟩, ⟨.sh, 0, 0, .row 1 (List.map eI x40)⟩, ⟨.imm, 0, 0, .sc (.int .i64 out_o8_2_l7)⟩]⟩)]) (by kernel_rfl) (sq z232 (oFA (r' := .mp 3 0 0) rfl fF99_0 rfl rfl) <| sq z232 (oLd (cs := [.im 0 _]) rfl tF2 rfl rfl) <| sq z232 (oMv rfl rfl) <| sq z232 (oBi rfl rfl rfl rfl) <| sq z232 (oFA (r' := .mp 4 0 0) rfl fF101_0 rfl rfl) <| sq z232 (oLd (cs := [.im 0 _]) rfl tF2 rfl rfl) <| sq z232 (oMin rfl rfl) <| sq z232 (oFA (r' := .mp 8 0 2) rfl fF255_2 rfl rfl) <| sq z232 (oSt tF2 rfl rfl rfl (tkI tk0) rfl rfl rfl) <| nl) ?_
          refine Unw.seq ?_
          refine Go.seq ?_
          obtain ⟨x55, hx55, h⟩ := bs h
          refine Go.r1 c232 rfl rfl (st1 := mk [(3, .v false [.mp 3 0 0]), (4, .v false [.mp 4 0 0]), (6, .v false [.mp 6 0 0]), (8, .v false [.mp 8 0 0]), (9, iv at_9_l7)] [(3, some ⟨0, 0, false, true, false, true, [⟨.imm, 0, 0, .sc (.int .i64 r_0.Width)⟩, ⟨.imm, 0, 0, .sc (.int .i64 r_0.Length)⟩]⟩), (4, some ⟨0, 0, false, true, false, true, [⟨.imm, 0, 0, .sc (.int .i64 k_1.Board)⟩, ⟨.imm, 0, 0, .sc (.int .i64 k_1.Wide)⟩, ⟨.imm, 0, 0, .sc (.int .i64 k_1.Least)⟩, ⟨.imm, 0, 0, .sc (.int .i64 k_1.Stagger)⟩]⟩), (6, some ⟨0, 0, false, true, false, true, [⟨.sh, 0, 0, .row 1 (List.map eI ([] : List Int))⟩, ⟨.sh, 0, 0, .row 1 (List.map eI ([] : List Int))⟩, ⟨.imm, 0, 0, .sc (.int .i64 0)⟩]⟩), (8, some ⟨0, 0, false, true, false, true, [⟨.sh, 0, 0, .row 1 (List.map eI out_o8_0_l7)⟩, ⟨.sh, 0, 0, .row 1 (List.map eI x40)⟩, ⟨.imm, 0, 0, .sc (.int .i64 (min2 (w64 (r_0.Width - at_9_l7)) k_1.Board))⟩]⟩)]) (by kernel_rfl) (sq z232 (oFA (r' := .mp 8 0 0) rfl fF255_0 rfl rfl) <| sq z232 (oLd (cs := [.own 8 0 0]) rfl tF27 rfl rfl) <| sq z232 (oFA (r' := .mp 8 0 2) rfl fF255_2 rfl rfl) <| sq z232 (oLd (cs := [.im 0 _]) rfl tF2 rfl rfl) <| sq z232 (oBS (es := List.map eI ([(min2 (w64 (r_0.Width - at_9_l7)) k_1.Board)] : List Int)) rfl sF27 rfl (ptC rfl (fxI fx0) rfl pt0) (flat0 rfl fun _ => rfl)) <| sq z232 (oApO (en := eI) (M := ([(min2 (w64 (r_0.Width - at_9_l7)) k_1.Board)] : List Int)) rfl hx55 rfl sF27 rfl rfl uF27 (.inl ⟨_, rfl⟩) rfl rfl rfl rfl (el_own rfl rfl) (flat0 rfl fun _ => rfl)) <| sq z232 (oFA (r' := .mp 8 0 0) rfl fF255_0 rfl rfl) <| sq z232 (oSt tF27 rfl rfl rfl (tkO rfl rfl tk0) rfl rfl rfl) <| nl) ?_
          refine Unw.seq ?_
          refine Go.r1 c232 rfl rfl (st1 := mk [(3, .v false [.mp 3 0 0]), (4, .v false [.mp 4 0 0]), (6, .v false [.mp 6 0 0]), (8, .v false [.mp 8 0 0]), (9, iv at_9_l7)] [(3, some ⟨0, 0, false, true, false, true, [⟨.imm, 0, 0, .sc (.int .i64 r_0.Width)⟩, ⟨.imm, 0, 0, .sc (.int .i64 r_0.Length)⟩]⟩), (4, some ⟨0, 0, false, true, false, true, [⟨.imm, 0, 0, .sc (.int .i64 k_1.Board)⟩, ⟨.imm, 0, 0, .sc (.int .i64 k_1.Wide)⟩, ⟨.imm, 0, 0, .sc (.int .i64 k_1.Least)⟩, ⟨.imm, 0, 0, .sc (.int .i64 k_1.Stagger)⟩]⟩), (6, some ⟨0, 0, false, true, false, true, [⟨.sh, 0, 0, .row 1 (List.map eI ([] : List Int))⟩, ⟨.sh, 0, 0, .row 1 (List.map eI ([] : List Int))⟩, ⟨.imm, 0, 0, .sc (.int .i64 0)⟩]⟩), (8, some ⟨0, 0, false, true, false, true, [⟨.sh, 0, 0, .row 1 (List.map eI x55)⟩, ⟨.sh, 0, 0, .row 1 (List.map eI x40)⟩, ⟨.imm, 0, 0, .sc (.int .i64 (min2 (w64 (r_0.Width - at_9_l7)) k_1.Board))⟩]⟩)]) (by kernel_rfl) (sq z232 (oMv rfl rfl) <| sq z232 (oFA (r' := .mp 8 0 2) rfl fF255_2 rfl rfl) <| sq z232 (oLd (cs := [.im 0 _]) rfl tF2 rfl rfl) <| sq z232 (oBi rfl rfl rfl rfl) <| sq z232 (oAsI rfl rfl) <| nl) ?_
          refine Unw.blk ?_
          refine Unw.nil ?_
          cases h
          exact ⟨rfl, (by kernel_rfl)⟩
        · rw [if_neg hc6] at h
          refine Go.condF rfl (byF iDec hc6) ?_
          refine Go.exit ?_
          refine Unw.seqx ?_
          refine Unw.nil ?_
          cases h
          exact ⟨rfl, (by kernel_rfl)⟩
      · rintro ⟨e, st⟩ hp
        obtain ⟨out_o8_0_e0_7, out_o8_1_e0_7, out_o8_2_e0_7⟩ := o
        dsimp only at h
        obtain ⟨he, hst⟩ := hp
        obtain rfl : e = .exit 0 := he
        refine Unw.blkx ?_
        refine Unw.seq ?_
        refine Go.seq ?_
        refine Go.seq ?_
        refine Go.r1 c232 rfl rfl hst (sq z232 (oFA (r' := .mp 8 0 2) rfl fF255_2 rfl rfl) <| sq z232 (oLd (cs := [.im 0 _]) rfl tF2 rfl rfl) <| sq z232 (oFA (r' := .mp 4 0 2) rfl fF101_2 rfl rfl) <| sq z232 (oLd (cs := [.im 0 _]) rfl tF2 rfl rfl) <| sq z232 (oBi rfl rfl rfl rfl) <| nl) ?_
        refine Unw.seq ?_
        by_cases hc5 : out_o8_2_e0_7 < k_1.Least
        · rw [if_pos hc5] at h
          refine Go.condT rfl (iDec.2 hc5) ?_
          refine Go.seq ?_
          refine Go.r0 c232 rfl rfl (sq z232 (oBu (cs := [.nil, .nil, .im 0 _]) rfl bF255 rfl) <| sq z232 (oSt tF255 rfl rfl rfl (tkN (tkN (tkI tk0))) rfl rfl rfl) <| sq z232 (oAsI rfl rfl) <| nl) ?_
          refine Unw.seq ?_
          refine Go.ret (Unw.ret ?_)
          cases h
          exact Fin_ret (fin_of rfl rF232 rfl (by kernel_rfl))
        · rw [if_neg hc5] at h
          refine Go.condF rfl (byF iDec hc5) ?_
          refine Go.skip ?_
          refine Unw.seq ?_
          refine Go.seq ?_
          refine Go.r0 c232 rfl rfl (sq z232 (oLd (cs := [.own 8 0 0, .own 8 0 1, .im 0 _]) rfl tF255 rfl rfl) <| sq z232 (oSt tF255 rfl rfl rfl (tkO rfl rfl (tkO rfl rfl (tkI tk0))) rfl rfl rfl) <| sq z232 (oAsI rfl rfl) <| nl) ?_
          refine Unw.seq ?_
          refine Go.ret (Unw.ret ?_)
          cases h
          exact Fin_ret (fin_of rfl rF232 rfl (by kernel_rfl))
  · rw [if_neg hc1] at h
    refine Go.condT rfl (nT (byF Iff.rfl hc1)) ?_
    refine Go.seq ?_
    refine Go.r0 c232 rfl rfl (sq z232 (oBu (cs := [.nil, .nil, .im 0 _]) rfl bF255 rfl) <| sq z232 (oSt tF255 rfl rfl rfl (tkN (tkN (tkI tk0))) rfl rfl rfl) <| sq z232 (oAsI rfl rfl) <| nl) ?_
    refine Unw.seq ?_
    refine Go.ret (Unw.ret ?_)
    cases h
    exact Fin_ret (fin_of rfl rF232 rfl (by kernel_rfl))
theorem L_impl_absolute {n_0 : Int} {r : Int} (h : impl_absolute n_0 = some r) : FL Try.prog cfg 208 [.im 2 false [.sc (.int .i64 n_0)]] = some ([(false, [.im 0 (.sc (.int .i64 r))])], []) := by
  unfold impl_absolute at h
  refine FL_goS (A := [(0, .v false [.im 2 (.sc (.int .i64 n_0))])]) (B := [(0, none)]) (nt := 7) rfl rfl Try.func208 rfl rfl rfl rfl ?_
  refine Go.seq ?_
  refine Go.r0 c208 rfl rfl (sq z208 (oAsI rfl rfl) <| nl) ?_
  refine Unw.seq ?_
  refine Go.seq ?_
  refine Go.r0 c208 rfl rfl (sq z208 (oMv rfl rfl) <| sq z208 (oMv rfl rfl) <| sq z208 (oUn rfl rfl rfl) <| sq z208 (oMax rfl rfl) <| sq z208 (oAsI rfl rfl) <| nl) ?_
  refine Unw.seq ?_
  refine Go.ret (Unw.ret ?_)
  cases h
  exact Fin_ret (fin_of rfl rF208 rfl (by kernel_rfl))
theorem L_impl_staggered {a_0 : S_row} {b_1 : S_row} {k_2 : S_Stock} {r : Bool} (h : impl_staggered a_0 b_1 k_2 = some r) : FL Try.prog cfg 233 [.im 2 true [.row 1 (List.map eI a_0.pieces), .row 1 (List.map eI a_0.joints), .sc (.int .i64 a_0.last)], .im 2 true [.row 1 (List.map eI b_1.pieces), .row 1 (List.map eI b_1.joints), .sc (.int .i64 b_1.last)], .im 2 true [.sc (.int .i64 k_2.Board), .sc (.int .i64 k_2.Wide), .sc (.int .i64 k_2.Least), .sc (.int .i64 k_2.Stagger)]] = some ([(false, [.im 0 (.sc (.bool r))])], []) := by
  unfold impl_staggered at h
  refine FL_goS (A := [(0, .v true [.im 2 (.row 1 (List.map eI a_0.pieces)), .im 2 (.row 1 (List.map eI a_0.joints)), .im 2 (.sc (.int .i64 a_0.last))]), (1, .v true [.im 2 (.row 1 (List.map eI b_1.pieces)), .im 2 (.row 1 (List.map eI b_1.joints)), .im 2 (.sc (.int .i64 b_1.last))]), (2, .v true [.im 2 (.sc (.int .i64 k_2.Board)), .im 2 (.sc (.int .i64 k_2.Wide)), .im 2 (.sc (.int .i64 k_2.Least)), .im 2 (.sc (.int .i64 k_2.Stagger))])]) (B := [(0, none), (1, none), (2, none)]) (nt := 51) rfl rfl Try.func233 rfl rfl rfl rfl ?_
  refine Go.seq ?_
  refine Go.r0 c233 rfl rfl (sq z233 (oBx rfl tF255 rfl (tkI (tkI (tkI tk0)))) <| sq z233 (oBx rfl tF255 rfl (tkI (tkI (tkI tk0)))) <| sq z233 (oBx rfl tF101 rfl (tkI (tkI (tkI (tkI tk0))))) <| sq z233 (oAsI rfl rfl) <| nl) ?_
  refine Unw.seq ?_
  refine Go.seq ?_
  refine Go.r0 c233 rfl rfl (sq z233 (oAsI rfl rfl) <| sq z233 (oAsI rfl rfl) <| nl) ?_
  refine Unw.seq ?_
  refine Go.seq ?_
  refine Go.block ?_
  obtain ⟨o, hl, h⟩ := bs h
  refine Go.lp c233 rfl _ (fun (s : (Int × Int)) => match s with | (i_7_l2, n_8_l2) => mk [(3, .v false [.mp 3 0 0]), (4, .v false [.mp 4 0 0]), (5, .v false [.mp 5 0 0]), (7, iv i_7_l2), (8, iv n_8_l2)] [(3, some ⟨0, 0, false, true, false, true, [⟨.imm, 0, 2, .row 1 (List.map eI a_0.pieces)⟩, ⟨.imm, 0, 2, .row 1 (List.map eI a_0.joints)⟩, ⟨.imm, 0, 0, .sc (.int .i64 a_0.last)⟩]⟩), (4, some ⟨0, 0, false, true, false, true, [⟨.imm, 0, 2, .row 1 (List.map eI b_1.pieces)⟩, ⟨.imm, 0, 2, .row 1 (List.map eI b_1.joints)⟩, ⟨.imm, 0, 0, .sc (.int .i64 b_1.last)⟩]⟩), (5, some ⟨0, 0, false, true, false, true, [⟨.imm, 0, 0, .sc (.int .i64 k_2.Board)⟩, ⟨.imm, 0, 0, .sc (.int .i64 k_2.Wide)⟩, ⟨.imm, 0, 0, .sc (.int .i64 k_2.Least)⟩, ⟨.imm, 0, 0, .sc (.int .i64 k_2.Stagger)⟩]⟩)]) (fun (o : (Unit ⊕ Bool)) (p : Ex × St) => match o with | (.inl _) => p.1 = .exit 0 ∧ p.2.norm ([], []) = mk [] [] | (.inr r2) => p.1 = .ret ∧ fin Try.prog cfg 233 Try.f233 [.im 2 true [.row 1 (List.map eI a_0.pieces), .row 1 (List.map eI a_0.joints), .sc (.int .i64 a_0.last)], .im 2 true [.row 1 (List.map eI b_1.pieces), .row 1 (List.map eI b_1.joints), .sc (.int .i64 b_1.last)], .im 2 true [.sc (.int .i64 k_2.Board), .sc (.int .i64 k_2.Wide), .sc (.int .i64 k_2.Least), .sc (.int .i64 k_2.Stagger)]] p.2 = some ([(false, [.im 0 (.sc (.bool r2))])], [])) hl (by kernel_rfl) ?_ ?_ ?_
  · intro o p hp e
    rcases o with u | r2 <;> exact nomatch (hp.1.symm.trans e)
  · rintro ⟨i_7_l2, n_8_l2⟩ o h
    unfold impl_staggered_l2 at h
    dsimp only at h
    refine Go.seq ?_
    refine Go.seq ?_
    refine Go.rX c233 rfl rfl rfl (mk [(3, .v false [.mp 3 0 0]), (4, .v false [.mp 4 0 0]), (5, .v false [.mp 5 0 0]), (7, iv i_7_l2), (8, iv n_8_l2), (20, bv ((decide (i_7_l2 < (a_0.joints.length : Int))) && (decide (n_8_l2 < (b_1.joints.length : Int)))))] [(3, some ⟨0, 0, false, true, false, true, [⟨.imm, 0, 2, .row 1 (List.map eI a_0.pieces)⟩, ⟨.imm, 0, 2, .row 1 (List.map eI a_0.joints)⟩, ⟨.imm, 0, 0, .sc (.int .i64 a_0.last)⟩]⟩), (4, some ⟨0, 0, false, true, false, true, [⟨.imm, 0, 2, .row 1 (List.map eI b_1.pieces)⟩, ⟨.imm, 0, 2, .row 1 (List.map eI b_1.joints)⟩, ⟨.imm, 0, 0, .sc (.int .i64 b_1.last)⟩]⟩), (5, some ⟨0, 0, false, true, false, true, [⟨.imm, 0, 0, .sc (.int .i64 k_2.Board)⟩, ⟨.imm, 0, 0, .sc (.int .i64 k_2.Wide)⟩, ⟨.imm, 0, 0, .sc (.int .i64 k_2.Least)⟩, ⟨.imm, 0, 0, .sc (.int .i64 k_2.Stagger)⟩]⟩)]) ?_ ?_
    · by_cases hc9 : i_7_l2 < (a_0.joints.length : Int)
      · exact ⟨_, sq z233 (oMv rfl rfl) <| sq z233 (oFA (r' := .mp 3 0 1) rfl fF255_1 rfl rfl) <| sq z233 (oLd (cs := [.im 2 _]) rfl tF27 rfl rfl) <| sq z233 (oLnI rfl rfl uF27 rfl) <| sq z233 (oBi rfl rfl rfl rfl) <| sq z233 (oMv rfl rfl) <| sgT z233 rfl rfl (iDec.2 hc9) (oMv rfl rfl) <| sgT z233 rfl rfl (iDec.2 hc9) (oFA (r' := .mp 4 0 1) rfl fF255_1 rfl rfl) <| sgT z233 rfl rfl (iDec.2 hc9) (oLd (cs := [.im 2 _]) rfl tF27 rfl rfl) <| sgT z233 rfl rfl (iDec.2 hc9) (oLnI rfl rfl uF27 rfl) <| sgT z233 rfl rfl (iDec.2 hc9) (oBi rfl rfl rfl rfl) <| sq z233 (oPkT rfl rfl (iDec.2 hc9) rfl) <| nl, (Eq.trans (b := (fun t_20_m2 : Bool => mk [(3, .v false [.mp 3 0 0]), (4, .v false [.mp 4 0 0]), (5, .v false [.mp 5 0 0]), (7, iv i_7_l2), (8, iv n_8_l2), (20, bv t_20_m2)] [(3, some ⟨0, 0, false, true, false, true, [⟨.imm, 0, 2, .row 1 (List.map eI a_0.pieces)⟩, ⟨.imm, 0, 2, .row 1 (List.map eI a_0.joints)⟩, ⟨.imm, 0, 0, .sc (.int .i64 a_0.last)⟩]⟩), (4, some ⟨0, 0, false, true, false, true, [⟨.imm, 0, 2, .row 1 (List.map eI b_1.pieces)⟩, ⟨.imm, 0, 2, .row 1 (List.map eI b_1.joints)⟩, ⟨.imm, 0, 0, .sc (.int .i64 b_1.last)⟩]⟩), (5, some ⟨0, 0, false, true, false, true, [⟨.imm, 0, 0, .sc (.int .i64 k_2.Board)⟩, ⟨.imm, 0, 0, .sc (.int .i64 k_2.Wide)⟩, ⟨.imm, 0, 0, .sc (.int .i64 k_2.Least)⟩, ⟨.imm, 0, 0, .sc (.int .i64 k_2.Stagger)⟩]⟩)]) (decide (n_8_l2 < (b_1.joints.length : Int)))) (by kernel_rfl) (congrArg (fun t_20_m2 : Bool => mk [(3, .v false [.mp 3 0 0]), (4, .v false [.mp 4 0 0]), (5, .v false [.mp 5 0 0]), (7, iv i_7_l2), (8, iv n_8_l2), (20, bv t_20_m2)] [(3, some ⟨0, 0, false, true, false, true, [⟨.imm, 0, 2, .row 1 (List.map eI a_0.pieces)⟩, ⟨.imm, 0, 2, .row 1 (List.map eI a_0.joints)⟩, ⟨.imm, 0, 0, .sc (.int .i64 a_0.last)⟩]⟩), (4, some ⟨0, 0, false, true, false, true, [⟨.imm, 0, 2, .row 1 (List.map eI b_1.pieces)⟩, ⟨.imm, 0, 2, .row 1 (List.map eI b_1.joints)⟩, ⟨.imm, 0, 0, .sc (.int .i64 b_1.last)⟩]⟩), (5, some ⟨0, 0, false, true, false, true, [⟨.imm, 0, 0, .sc (.int .i64 k_2.Board)⟩, ⟨.imm, 0, 0, .sc (.int .i64 k_2.Wide)⟩, ⟨.imm, 0, 0, .sc (.int .i64 k_2.Least)⟩, ⟨.imm, 0, 0, .sc (.int .i64 k_2.Stagger)⟩]⟩)]) (by first | rfl | (simp [(iDec.2 hc9)]; done) | (simp [(iDec.2 hc9)]; omega))))⟩
      · exact ⟨_, sq z233 (oMv rfl rfl) <| sq z233 (oFA (r' := .mp 3 0 1) rfl fF255_1 rfl rfl) <| sq z233 (oLd (cs := [.im 2 _]) rfl tF27 rfl rfl) <| sq z233 (oLnI rfl rfl uF27 rfl) <| sq z233 (oBi rfl rfl rfl rfl) <| sq z233 (oMv rfl rfl) <| sgF rfl rfl (byF iDec hc9) rfl <| sgF rfl rfl (byF iDec hc9) rfl <| sgF rfl rfl (byF iDec hc9) rfl <| sgF rfl rfl (byF iDec hc9) rfl <| sgF rfl rfl (byF iDec hc9) rfl <| sq z233 (oPkF rfl rfl (byF iDec hc9) rfl) <| nl, (Eq.trans (b := (fun t_20_m2 : Bool => mk [(3, .v false [.mp 3 0 0]), (4, .v false [.mp 4 0 0]), (5, .v false [.mp 5 0 0]), (7, iv i_7_l2), (8, iv n_8_l2), (20, bv t_20_m2)] [(3, some ⟨0, 0, false, true, false, true, [⟨.imm, 0, 2, .row 1 (List.map eI a_0.pieces)⟩, ⟨.imm, 0, 2, .row 1 (List.map eI a_0.joints)⟩, ⟨.imm, 0, 0, .sc (.int .i64 a_0.last)⟩]⟩), (4, some ⟨0, 0, false, true, false, true, [⟨.imm, 0, 2, .row 1 (List.map eI b_1.pieces)⟩, ⟨.imm, 0, 2, .row 1 (List.map eI b_1.joints)⟩, ⟨.imm, 0, 0, .sc (.int .i64 b_1.last)⟩]⟩), (5, some ⟨0, 0, false, true, false, true, [⟨.imm, 0, 0, .sc (.int .i64 k_2.Board)⟩, ⟨.imm, 0, 0, .sc (.int .i64 k_2.Wide)⟩, ⟨.imm, 0, 0, .sc (.int .i64 k_2.Least)⟩, ⟨.imm, 0, 0, .sc (.int .i64 k_2.Stagger)⟩]⟩)]) false) (by kernel_rfl) (congrArg (fun t_20_m2 : Bool => mk [(3, .v false [.mp 3 0 0]), (4, .v false [.mp 4 0 0]), (5, .v false [.mp 5 0 0]), (7, iv i_7_l2), (8, iv n_8_l2), (20, bv t_20_m2)] [(3, some ⟨0, 0, false, true, false, true, [⟨.imm, 0, 2, .row 1 (List.map eI a_0.pieces)⟩, ⟨.imm, 0, 2, .row 1 (List.map eI a_0.joints)⟩, ⟨.imm, 0, 0, .sc (.int .i64 a_0.last)⟩]⟩), (4, some ⟨0, 0, false, true, false, true, [⟨.imm, 0, 2, .row 1 (List.map eI b_1.pieces)⟩, ⟨.imm, 0, 2, .row 1 (List.map eI b_1.joints)⟩, ⟨.imm, 0, 0, .sc (.int .i64 b_1.last)⟩]⟩), (5, some ⟨0, 0, false, true, false, true, [⟨.imm, 0, 0, .sc (.int .i64 k_2.Board)⟩, ⟨.imm, 0, 0, .sc (.int .i64 k_2.Wide)⟩, ⟨.imm, 0, 0, .sc (.int .i64 k_2.Least)⟩, ⟨.imm, 0, 0, .sc (.int .i64 k_2.Stagger)⟩]⟩)]) (by first | rfl | (simp [(byF iDec hc9)]; done) | (simp [(byF iDec hc9)]; omega))))⟩
    · refine Unw.seq ?_
      by_cases hc10 : (i_7_l2 < (a_0.joints.length : Int) ∧ n_8_l2 < (b_1.joints.length : Int))
      · rw [if_pos hc10] at h
        refine Go.condT rfl ((iAnd iDec iDec).2 hc10) ?_
        refine Go.skip ?_
        refine Unw.seq ?_
        refine Go.block ?_
        refine Go.seq ?_
        refine Go.seq ?_
        obtain ⟨x24, hx24, h⟩ := bs h
        obtain ⟨x29, hx29, h⟩ := bs h
        obtain ⟨x32, hx32, h⟩ := bs h
        refine Go.dr c233 rfl rfl rfl rfl (mk [(3, .v false [.mp 3 0 0]), (4, .v false [.mp 4 0 0]), (5, .v false [.mp 5 0 0]), (7, iv i_7_l2), (8, iv n_8_l2), (35, bv (decide (x32 < k_2.Stagger)))] [(3, some ⟨0, 0, false, true, false, true, [⟨.imm, 0, 2, .row 1 (List.map eI a_0.pieces)⟩, ⟨.imm, 0, 2, .row 1 (List.map eI a_0.joints)⟩, ⟨.imm, 0, 0, .sc (.int .i64 a_0.last)⟩]⟩), (4, some ⟨0, 0, false, true, false, true, [⟨.imm, 0, 2, .row 1 (List.map eI b_1.pieces)⟩, ⟨.imm, 0, 2, .row 1 (List.map eI b_1.joints)⟩, ⟨.imm, 0, 0, .sc (.int .i64 b_1.last)⟩]⟩), (5, some ⟨0, 0, false, true, false, true, [⟨.imm, 0, 0, .sc (.int .i64 k_2.Board)⟩, ⟨.imm, 0, 0, .sc (.int .i64 k_2.Wide)⟩, ⟨.imm, 0, 0, .sc (.int .i64 k_2.Least)⟩, ⟨.imm, 0, 0, .sc (.int .i64 k_2.Stagger)⟩]⟩)]) (sT rfl (dN z233 rfl (oFA (r' := .mp 3 0 1) rfl fF255_1 rfl rfl)) <| sT rfl (dN z233 rfl (oLd (cs := [.im 2 _]) rfl tF27 rfl rfl)) <| sT rfl (dN z233 rfl (oMv rfl rfl)) <| sT rfl (dN z233 rfl (oIAI rfl hx24 sF27 rfl rfl)) <| sT rfl (dN z233 rfl (oLd (cs := [.im 2 _]) rfl tF2 rfl rfl)) <| sT rfl (dN z233 rfl (oFA (r' := .mp 4 0 1) rfl fF255_1 rfl rfl)) <| sT rfl (dN z233 rfl (oLd (cs := [.im 2 _]) rfl tF27 rfl rfl)) <| sT rfl (dN z233 rfl (oMv rfl rfl)) <| sT rfl (dN z233 rfl (oIAI rfl hx29 sF27 rfl rfl)) <| sT rfl (dN z233 rfl (oLd (cs := [.im 2 _]) rfl tF2 rfl rfl)) <| sT rfl (dN z233 rfl (oBi rfl rfl rfl rfl)) <| sT rfl (dN z233 rfl (oFA (r' := .mp 5 0 3) rfl fF101_3 rfl rfl)) <| sT rfl (dN z233 rfl (oLd (cs := [.im 0 _]) rfl tF2 rfl rfl)) <| sS (dN z233 rfl (oCa (xs := [.v false [.im 0 _]]) (vs := [(false, [.im 0 _])]) (v := .v false [.im 0 _]) (L_impl_absolute hx32) (.inl rfl) rfl kF208_2 rfl (ppC rfl pp0) rfl rfl pb0 rfl rfl rfl)) trivial (sT rfl (dN z233 rfl (oBi rfl rfl rfl rfl)) <| sD (by kernel_rfl))) ?_
        refine Unw.seq ?_
        by_cases hc11 : x32 < k_2.Stagger
        · rw [if_pos hc11] at h
          refine Go.condT rfl (iDec.2 hc11) ?_
          refine Go.seq ?_
          refine Go.r0 c233 rfl rfl (sq z233 (oAsI rfl rfl) <| nl) ?_
          refine Unw.seq ?_
          refine Go.ret (Unw.ret ?_)
          cases h
          exact ⟨rfl, (fin_of rfl rF233 rfl (by kernel_rfl))⟩
        · rw [if_neg hc11] at h
          refine Go.condF rfl (byF iDec hc11) ?_
          refine Go.skip ?_
          refine Unw.seq ?_
          refine Go.seq ?_
          obtain ⟨x39, hx39, h⟩ := bs h
          obtain ⟨x44, hx44, h⟩ := bs h
          refine Go.dr c233 rfl rfl rfl rfl (mk [(3, .v false [.mp 3 0 0]), (4, .v false [.mp 4 0 0]), (5, .v false [.mp 5 0 0]), (7, iv i_7_l2), (8, iv n_8_l2), (46, bv (decide (x39 < x44)))] [(3, some ⟨0, 0, false, true, false, true, [⟨.imm, 0, 2, .row 1 (List.map eI a_0.pieces)⟩, ⟨.imm, 0, 2, .row 1 (List.map eI a_0.joints)⟩, ⟨.imm, 0, 0, .sc (.int .i64 a_0.last)⟩]⟩), (4, some ⟨0, 0, false, true, false, true, [⟨.imm, 0, 2, .row 1 (List.map eI b_1.pieces)⟩, ⟨.imm, 0, 2, .row 1 (List.map eI b_1.joints)⟩, ⟨.imm, 0, 0, .sc (.int .i64 b_1.last)⟩]⟩), (5, some ⟨0, 0, false, true, false, true, [⟨.imm, 0, 0, .sc (.int .i64 k_2.Board)⟩, ⟨.imm, 0, 0, .sc (.int .i64 k_2.Wide)⟩, ⟨.imm, 0, 0, .sc (.int .i64 k_2.Least)⟩, ⟨.imm, 0, 0, .sc (.int .i64 k_2.Stagger)⟩]⟩)]) (sT rfl (dN z233 rfl (oFA (r' := .mp 3 0 1) rfl fF255_1 rfl rfl)) <| sT rfl (dN z233 rfl (oLd (cs := [.im 2 _]) rfl tF27 rfl rfl)) <| sT rfl (dN z233 rfl (oMv rfl rfl)) <| sT rfl (dN z233 rfl (oIAI rfl hx39 sF27 rfl rfl)) <| sT rfl (dN z233 rfl (oLd (cs := [.im 2 _]) rfl tF2 rfl rfl)) <| sT rfl (dN z233 rfl (oFA (r' := .mp 4 0 1) rfl fF255_1 rfl rfl)) <| sT rfl (dN z233 rfl (oLd (cs := [.im 2 _]) rfl tF27 rfl rfl)) <| sT rfl (dN z233 rfl (oMv rfl rfl)) <| sT rfl (dN z233 rfl (oIAI rfl hx44 sF27 rfl rfl)) <| sT rfl (dN z233 rfl (oLd (cs := [.im 2 _]) rfl tF2 rfl rfl)) <| sT rfl (dN z233 rfl (oBi rfl rfl rfl rfl)) <| sD (by kernel_rfl)) ?_
          refine Unw.seq ?_
          by_cases hc12 : x39 < x44
          · rw [if_pos hc12] at h
            refine Go.condT rfl (iDec.2 hc12) ?_
            refine Go.r0 c233 rfl rfl (sq z233 (oMv rfl rfl) <| sq z233 (oBi rfl rfl rfl rfl) <| sq z233 (oAsI rfl rfl) <| nl) ?_
            refine Unw.blk ?_
            refine Unw.nil ?_
            cases h
            exact ⟨rfl, (by kernel_rfl)⟩
          · rw [if_neg hc12] at h
            refine Go.condF rfl (byF iDec hc12) ?_
            refine Go.r0 c233 rfl rfl (sq z233 (oMv rfl rfl) <| sq z233 (oBi rfl rfl rfl rfl) <| sq z233 (oAsI rfl rfl) <| nl) ?_
            refine Unw.blk ?_
            refine Unw.nil ?_
            cases h
            exact ⟨rfl, (by kernel_rfl)⟩
      · rw [if_neg hc10] at h
        refine Go.condF rfl (byF (iAnd iDec iDec) hc10) ?_
        refine Go.exit ?_
        refine Unw.seqx ?_
        refine Unw.nil ?_
        cases h
        exact ⟨rfl, (by kernel_rfl)⟩
  · rintro ⟨e, st⟩ hp
    rcases o with u | r2
    · dsimp only at h
      obtain ⟨he, hst⟩ := hp
      obtain rfl : e = .exit 0 := he
      refine Unw.blkx ?_
      refine Unw.seq ?_
      refine Go.seq ?_
      refine Go.r1 c233 rfl rfl hst (sq z233 (oAsI rfl rfl) <| nl) ?_
      refine Unw.seq ?_
      refine Go.ret (Unw.ret ?_)
      cases h
      exact Fin_ret (fin_of rfl rF233 rfl (by kernel_rfl))
    · dsimp only at h
      obtain ⟨he, hfin⟩ := hp
      obtain rfl : e = .ret := he
      cases h
      exact Unw.ret (Fin_ret hfin)
theorem L_impl_possible {r_0 : S_Room} {k_1 : S_Stock} {before_2 : (Option S_row)} {first_3 : Int} {r : (S_row × Bool)} (h : impl_possible r_0 k_1 before_2 first_3 = some r) : FL Try.prog cfg 161 [.im 2 true [.sc (.int .i64 r_0.Width), .sc (.int .i64 r_0.Length)], .im 2 true [.sc (.int .i64 k_1.Board), .sc (.int .i64 k_1.Wide), .sc (.int .i64 k_1.Least), .sc (.int .i64 k_1.Stagger)], .im 2 false [eO e_S_row before_2], .im 2 false [.sc (.int .i64 first_3)]] = some ([(true, [.ow 0 1 (List.map eI r.1.pieces), .ow 0 1 (List.map eI r.1.joints), .im 0 (.sc (.int .i64 r.1.last))]), (false, [.im 0 (.sc (.bool r.2))])], []) := by
  unfold impl_possible at h
  refine FL_goS (A := [(0, .v true [.im 2 (.sc (.int .i64 r_0.Width)), .im 2 (.sc (.int .i64 r_0.Length))]), (1, .v true [.im 2 (.sc (.int .i64 k_1.Board)), .im 2 (.sc (.int .i64 k_1.Wide)), .im 2 (.sc (.int .i64 k_1.Least)), .im 2 (.sc (.int .i64 k_1.Stagger))]), (2, .v false [.im 2 (eO e_S_row before_2)]), (3, .v false [.im 2 (.sc (.int .i64 first_3))])]) (B := [(0, none), (1, none), (2, none), (3, none)]) (nt := 34) rfl rfl Try.func161 rfl rfl rfl rfl ?_
  refine Go.seq ?_
  refine Go.r0 c161 rfl rfl (sq z161 (oBx rfl tF99 rfl (tkI (tkI tk0))) <| sq z161 (oBx rfl tF101 rfl (tkI (tkI (tkI (tkI tk0))))) <| sq z161 (oAl rfl tF255 (tkN (tkN (tkI tk0)))) <| sq z161 (oAsI rfl rfl) <| nl) ?_
  refine Unw.seq ?_
  refine Go.seq ?_
  obtain ⟨x16, hx16, h⟩ := bs h
  refine Go.r0 c161 rfl rfl (sq z161 (oLd (cs := [.im 0 _, .im 0 _]) rfl tF99 rfl rfl) <| sq z161 (oLd (cs := [.im 0 _, .im 0 _, .im 0 _, .im 0 _]) rfl tF101 rfl rfl) <| sq z161 (oMv rfl rfl) <| sq z161 (oCr (xs := [.v true [.im 0 _, .im 0 _], .v true [.im 0 _, .im 0 _, .im 0 _, .im 0 _], .v false [.im 2 _]]) (vs := [(true, [.own 16 0 0, .own 16 0 1, .im 0 _]), (false, [.im 0 _])]) (v := .tup [(true, [.own 16 0 0, .own 16 0 1, .im 0 _]), (false, [.im 0 _])]) (c := ⟨.sh, 0, _⟩) (cs := [⟨.sh, 0, _⟩]) (L_impl_makeRow hx16) (.inl rfl) rfl kF232_99_101_2 rfl (ppC rfl (ppC rfl (ppC rfl pp0))) rfl rfl pb0 rfl rfl rfl) <| sq z161 (oMvT rfl rfl) <| sq z161 (oEx rfl rfl rfl) <| sq z161 (oEx rfl rfl rfl) <| sq z161 (oAl rfl tF255 (tkN (tkN (tkI tk0)))) <| sq z161 (oSt tF255 rfl rfl rfl (tkO rfl rfl (tkO rfl rfl (tkI tk0))) rfl rfl rfl) <| sq z161 (oAsI rfl rfl) <| nl) ?_
  refine Unw.seq ?_
  refine Go.seq ?_
  obtain ⟨t_9_m2, hm3, h⟩ := bs h
  refine Go.dr c161 rfl rfl rfl (st1 := mk [(2, .v false [.im (tagOf 2 (eO e_S_row before_2)) (eO e_S_row before_2)]), (5, .v false [.mp 5 0 0]), (8, .v false [.mp 8 0 0]), (10, .v false [.mp 10 0 0]), (11, iv x16.2)] [(5, some ⟨0, 0, false, true, false, true, [⟨.imm, 0, 0, .sc (.int .i64 k_1.Board)⟩, ⟨.imm, 0, 0, .sc (.int .i64 k_1.Wide)⟩, ⟨.imm, 0, 0, .sc (.int .i64 k_1.Least)⟩, ⟨.imm, 0, 0, .sc (.int .i64 k_1.Stagger)⟩]⟩), (8, some ⟨0, 0, false, true, false, true, [⟨.sh, 0, 0, .row 1 (List.map eI ([] : List Int))⟩, ⟨.sh, 0, 0, .row 1 (List.map eI ([] : List Int))⟩, ⟨.imm, 0, 0, .sc (.int .i64 0)⟩]⟩), (10, some ⟨0, 0, false, true, false, true, [⟨.sh, 0, 0, .row 1 (List.map eI x16.1.pieces)⟩, ⟨.sh, 0, 0, .row 1 (List.map eI x16.1.joints)⟩, ⟨.imm, 0, 0, .sc (.int .i64 x16.1.last)⟩]⟩)]) (by kernel_rfl) (mk [(8, .v false [.mp 8 0 0]), (9, bv t_9_m2)] [(8, some ⟨0, 0, false, true, false, true, [⟨.sh, 0, 0, .row 1 (List.map eI x16.1.pieces)⟩, ⟨.sh, 0, 0, .row 1 (List.map eI x16.1.joints)⟩, ⟨.imm, 0, 0, .sc (.int .i64 x16.1.last)⟩]⟩)]) ?_ ?_
  · by_cases hc1 : x16.2 = 0
    · rw [if_pos hc1] at hm3
      cases before_2 with
      | none =>
        cases hm3
        exact sT rfl (dN z161 rfl (oLd (cs := [.own 10 0 0, .own 10 0 1, .im 0 _]) rfl tF255 rfl rfl)) <| sT rfl (dN z161 rfl (oMv rfl rfl)) <| sT rfl (dN z161 rfl (oBi rfl rfl rfl rfl)) <| sT rfl (dN z161 rfl (oMv rfl rfl)) <| sT rfl (dT z161 rfl rfl rfl (iEq.2 hc1) (oMv rfl rfl)) <| sT rfl (dT z161 rfl rfl rfl (iEq.2 hc1) (oBiU rfl uF252 rfl rfl rfl)) <| sT rfl (dT z161 rfl rfl rfl (iEq.2 hc1) (oMv rfl rfl)) <| sT rfl (dF rfl rfl rfl rfl rfl) <| sT rfl (dF rfl rfl rfl rfl rfl) <| sT rfl (dF rfl rfl rfl rfl rfl) <| sT rfl (dF rfl rfl rfl rfl rfl) <| sT rfl (dF rfl rfl rfl rfl rfl) <| sS (dF rfl rfl rfl rfl rfl) trivial (sT rfl (dT z161 rfl rfl rfl (iEq.2 hc1) (oPkT rfl rfl rfl rfl)) <| sT rfl (dN z161 rfl (oPkT rfl rfl (iEq.2 hc1) rfl)) <| sS (dN z161 rfl (oSt tF255 rfl rfl rfl (tkO rfl rfl (tkO rfl rfl (tkI tk0))) rfl rfl rfl)) trivial (sS (dN z161 rfl (oAsI rfl rfl)) trivial (sD (by first | (cases before_2 <;> kernel_rfl) | kernel_rfl))))
      | some ohc2 =>
        obtain ⟨x31, hx31, hm3⟩ := bs hm3
        cases hm3
        exact sT rfl (dN z161 rfl (oLd (cs := [.own 10 0 0, .own 10 0 1, .im 0 _]) rfl tF255 rfl rfl)) <| sT rfl (dN z161 rfl (oMv rfl rfl)) <| sT rfl (dN z161 rfl (oBi rfl rfl rfl rfl)) <| sT rfl (dN z161 rfl (oMv rfl rfl)) <| sT rfl (dT z161 rfl rfl rfl (iEq.2 hc1) (oMv rfl rfl)) <| sT rfl (dT z161 rfl rfl rfl (iEq.2 hc1) (oBiU rfl uF252 rfl rfl rfl)) <| sT rfl (dT z161 rfl rfl rfl (iEq.2 hc1) (oMv rfl rfl)) <| sT rfl (dT z161 rfl rfl rfl rfl (oMv rfl rfl)) <| sT rfl (dT z161 rfl rfl rfl rfl (oNl rfl rfl rfl)) <| sT rfl (dT z161 rfl rfl rfl rfl (oLd (cs := [.im _ _, .im _ _, .im _ _]) rfl tF255 rfl rfl)) <| sT rfl (dT z161 rfl rfl rfl rfl (oLd (cs := [.own 10 0 0, .own 10 0 1, .im 0 _]) rfl tF255 rfl rfl)) <| sT rfl (dT z161 rfl rfl rfl rfl (oLd (cs := [.im 0 _, .im 0 _, .im 0 _, .im 0 _]) rfl tF101 rfl rfl)) <| sS (dT z161 rfl rfl rfl rfl (oCa (xs := [.v true [.im _ _, .im _ _, .im _ _], .v true [.own 10 0 0, .own 10 0 1, .im 0 _], .v true [.im 0 _, .im 0 _, .im 0 _, .im 0 _]]) (vs := [(false, [.im 0 _])]) (v := .v false [.im 0 _]) (L_impl_staggered hx31) (.inl rfl) rfl kF233_255_255_101 rfl (ppC rfl (ppC rfl (ppC rfl pp0))) rfl rfl pb0 rfl rfl rfl)) trivial (sT rfl (dT z161 rfl rfl rfl (iEq.2 hc1) (oPkF rfl rfl rfl rfl)) <| sT rfl (dN z161 rfl (oPkT rfl rfl (iEq.2 hc1) rfl)) <| sS (dN z161 rfl (oSt tF255 rfl rfl rfl (tkO rfl rfl (tkO rfl rfl (tkI tk0))) rfl rfl rfl)) trivial (sS (dN z161 rfl (oAsI rfl rfl)) trivial (sD (by first | (cases before_2 <;> kernel_rfl) | kernel_rfl))))
    · rw [if_neg hc1] at hm3
      cases hm3
      exact sT rfl (dN z161 rfl (oLd (cs := [.own 10 0 0, .own 10 0 1, .im 0 _]) rfl tF255 rfl rfl)) <| sT rfl (dN z161 rfl (oMv rfl rfl)) <| sT rfl (dN z161 rfl (oBi rfl rfl rfl rfl)) <| sT rfl (dN z161 rfl (oMv rfl rfl)) <| sT rfl (dF rfl rfl rfl (byF iEq hc1) rfl) <| sT rfl (dF rfl rfl rfl (byF iEq hc1) rfl) <| sT rfl (dF rfl rfl rfl (byF iEq hc1) rfl) <| sT rfl (dU rfl rfl rfl rfl) <| sT rfl (dU rfl rfl rfl rfl) <| sT rfl (dU rfl rfl rfl rfl) <| sT rfl (dU rfl rfl rfl rfl) <| sT rfl (dU rfl rfl rfl rfl) <| sS (dU rfl rfl rfl rfl) trivial (sT rfl (dF rfl rfl rfl (byF iEq hc1) rfl) <| sT rfl (dN z161 rfl (oPkF rfl rfl (byF iEq hc1) rfl)) <| sS (dN z161 rfl (oSt tF255 rfl rfl rfl (tkO rfl rfl (tkO rfl rfl (tkI tk0))) rfl rfl rfl)) trivial (sS (dN z161 rfl (oAsI rfl rfl)) trivial (sD (by first | (cases before_2 <;> kernel_rfl) | kernel_rfl))))
  · refine Unw.seq ?_
    refine Go.ret (Unw.ret ?_)
    cases h
    exact Fin_ret (fin_of rfl rF161 rfl (by kernel_rfl))
theorem L_impl_row_left {x_0 : S_row} {k_1 : S_Stock} {r : Int} (h : impl_row_left x_0 k_1 = some r) : FL Try.prog cfg 160 [.im 2 true [.row 1 (List.map eI x_0.pieces), .row 1 (List.map eI x_0.joints), .sc (.int .i64 x_0.last)], .im 2 true [.sc (.int .i64 k_1.Board), .sc (.int .i64 k_1.Wide), .sc (.int .i64 k_1.Least), .sc (.int .i64 k_1.Stagger)]] = some ([(false, [.im 0 (.sc (.int .i64 r))])], []) := by
  unfold impl_row_left at h
  refine FL_goS (A := [(0, .v true [.im 2 (.row 1 (List.map eI x_0.pieces)), .im 2 (.row 1 (List.map eI x_0.joints)), .im 2 (.sc (.int .i64 x_0.last))]), (1, .v true [.im 2 (.sc (.int .i64 k_1.Board)), .im 2 (.sc (.int .i64 k_1.Wide)), .im 2 (.sc (.int .i64 k_1.Least)), .im 2 (.sc (.int .i64 k_1.Stagger))])]) (B := [(0, none), (1, none)]) (nt := 14) rfl rfl Try.func160 rfl rfl rfl rfl ?_
  refine Go.seq ?_
  refine Go.r0 c160 rfl rfl (sq z160 (oBx rfl tF255 rfl (tkI (tkI (tkI tk0)))) <| sq z160 (oBx rfl tF101 rfl (tkI (tkI (tkI (tkI tk0))))) <| sq z160 (oAsI rfl rfl) <| nl) ?_
  refine Unw.seq ?_
  refine Go.seq ?_
  refine Go.seq ?_
  refine Go.r0 c160 rfl rfl (sq z160 (oFA (r' := .mp 2 0 0) rfl fF255_0 rfl rfl) <| sq z160 (oLd (cs := [.im 2 _]) rfl tF27 rfl rfl) <| sq z160 (oLnI rfl rfl uF27 rfl) <| sq z160 (oBi rfl rfl rfl rfl) <| nl) ?_
  refine Unw.seq ?_
  by_cases hc1 : (x_0.pieces.length : Int) = 1
  · rw [if_pos hc1] at h
    refine Go.condT rfl (iEq.2 hc1) ?_
    refine Go.seq ?_
    refine Go.r0 c160 rfl rfl (sq z160 (oAsI rfl rfl) <| nl) ?_
    refine Unw.seq ?_
    refine Go.ret (Unw.ret ?_)
    cases h
    exact Fin_ret (fin_of rfl rF160 rfl (by kernel_rfl))
  · rw [if_neg hc1] at h
    refine Go.condF rfl (byF iEq hc1) ?_
    refine Go.skip ?_
    refine Unw.seq ?_
    refine Go.seq ?_
    refine Go.r0 c160 rfl rfl (sq z160 (oFA (r' := .mp 3 0 0) rfl fF101_0 rfl rfl) <| sq z160 (oLd (cs := [.im 0 _]) rfl tF2 rfl rfl) <| sq z160 (oFA (r' := .mp 2 0 2) rfl fF255_2 rfl rfl) <| sq z160 (oLd (cs := [.im 0 _]) rfl tF2 rfl rfl) <| sq z160 (oBi rfl rfl rfl rfl) <| sq z160 (oAsI rfl rfl) <| nl) ?_
    refine Unw.seq ?_
    refine Go.ret (Unw.ret ?_)
    cases h
    exact Fin_ret (fin_of rfl rF160 rfl (by kernel_rfl))
theorem L_impl_boards {before_0 : S_row} {x_1 : S_row} {k_2 : S_Stock} {r : Int} (h : impl_boards before_0 x_1 k_2 = some r) : FL Try.prog cfg 164 [.im 2 true [.row 1 (List.map eI before_0.pieces), .row 1 (List.map eI before_0.joints), .sc (.int .i64 before_0.last)], .im 2 true [.row 1 (List.map eI x_1.pieces), .row 1 (List.map eI x_1.joints), .sc (.int .i64 x_1.last)], .im 2 true [.sc (.int .i64 k_2.Board), .sc (.int .i64 k_2.Wide), .sc (.int .i64 k_2.Least), .sc (.int .i64 k_2.Stagger)]] = some ([(false, [.im 0 (.sc (.int .i64 r))])], []) := by
  unfold impl_boards at h
  refine FL_goS (A := [(0, .v true [.im 2 (.row 1 (List.map eI before_0.pieces)), .im 2 (.row 1 (List.map eI before_0.joints)), .im 2 (.sc (.int .i64 before_0.last))]), (1, .v true [.im 2 (.row 1 (List.map eI x_1.pieces)), .im 2 (.row 1 (List.map eI x_1.joints)), .im 2 (.sc (.int .i64 x_1.last))]), (2, .v true [.im 2 (.sc (.int .i64 k_2.Board)), .im 2 (.sc (.int .i64 k_2.Wide)), .im 2 (.sc (.int .i64 k_2.Least)), .im 2 (.sc (.int .i64 k_2.Stagger))])]) (B := [(0, none), (1, none), (2, none)]) (nt := 22) rfl rfl Try.func164 rfl rfl rfl rfl ?_
  refine Go.seq ?_
  refine Go.r0 c164 rfl rfl (sq z164 (oBx rfl tF255 rfl (tkI (tkI (tkI tk0)))) <| sq z164 (oBx rfl tF255 rfl (tkI (tkI (tkI tk0)))) <| sq z164 (oBx rfl tF101 rfl (tkI (tkI (tkI (tkI tk0))))) <| sq z164 (oAsI rfl rfl) <| nl) ?_
  refine Unw.seq ?_
  refine Go.seq ?_
  refine Go.r0 c164 rfl rfl (sq z164 (oFA (r' := .mp 4 0 0) rfl fF255_0 rfl rfl) <| sq z164 (oLd (cs := [.im 2 _]) rfl tF27 rfl rfl) <| sq z164 (oLnI rfl rfl uF27 rfl) <| sq z164 (oAsI rfl rfl) <| nl) ?_
  refine Unw.seq ?_
  refine Go.seq ?_
  refine Go.seq ?_
  obtain ⟨x13, hx13, h⟩ := bs h
  obtain ⟨x17, hx17, h⟩ := bs h
  refine Go.dr c164 rfl rfl rfl rfl (mk [(7, iv (x_1.pieces.length : Int)), (18, bv (decide (x13 ≤ x17)))] []) (sT rfl (dN z164 rfl (oFA (r' := .mp 4 0 0) rfl fF255_0 rfl rfl)) <| sT rfl (dN z164 rfl (oLd (cs := [.im 2 _]) rfl tF27 rfl rfl)) <| sT rfl (dN z164 rfl (oIAI rfl hx13 sF27 rfl rfl)) <| sT rfl (dN z164 rfl (oLd (cs := [.im 2 _]) rfl tF2 rfl rfl)) <| sT rfl (dN z164 rfl (oLd (cs := [.im 2 _, .im 2 _, .im 0 _]) rfl tF255 rfl rfl)) <| sT rfl (dN z164 rfl (oLd (cs := [.im 0 _, .im 0 _, .im 0 _, .im 0 _]) rfl tF101 rfl rfl)) <| sS (dN z164 rfl (oCa (xs := [.v true [.im 2 _, .im 2 _, .im 0 _], .v true [.im 0 _, .im 0 _, .im 0 _, .im 0 _]]) (vs := [(false, [.im 0 _])]) (v := .v false [.im 0 _]) (L_impl_row_left hx17) (.inl rfl) rfl kF160_255_101 rfl (ppC rfl (ppC rfl pp0)) rfl rfl pb0 rfl rfl rfl)) trivial (sT rfl (dN z164 rfl (oBi rfl rfl rfl rfl)) <| sD (by kernel_rfl))) ?_
  refine Unw.seq ?_
  refine Go.join (fun st => ∃ out_7_r4, impl_boards_k4 out_7_r4 = some r ∧ st.norm ([7], []) = mk [(7, iv out_7_r4)] []) ?_ ?_
  · rintro st ⟨out_7_r4, h, hst⟩
    unfold impl_boards_k4 at h
    refine Unw.seq ?_
    refine Go.seq ?_
    refine Go.r1 c164 rfl rfl hst (sq z164 (oMv rfl rfl) <| sq z164 (oAsI rfl rfl) <| nl) ?_
    refine Unw.seq ?_
    refine Go.ret (Unw.ret ?_)
    cases h
    exact Fin_ret (fin_of rfl rF164 rfl (by kernel_rfl))
  · intro K2
    by_cases hc3 : x13 ≤ x17
    · rw [if_pos hc3] at h
      refine Go.condT rfl (iDec.2 hc3) ?_
      refine Go.r0 c164 rfl rfl (sq z164 (oMv rfl rfl) <| sq z164 (oBi rfl rfl rfl rfl) <| sq z164 (oAsI rfl rfl) <| nl) ?_
      exact K2 _ ⟨(w64 ((x_1.pieces.length : Int) - 1)), h, (by kernel_rfl)⟩
    · rw [if_neg hc3] at h
      refine Go.condF rfl (byF iDec hc3) ?_
      refine Go.skip ?_
      exact K2 _ ⟨(x_1.pieces.length : Int), h, (by kernel_rfl)⟩
theorem L_impl_floorSearch_run_F {self : (S_floorSearch × (List Int) × (Option S_row) × Int) → Option (Bool × S_floorSearch)}  (ih : ∀ {s_0 : S_floorSearch} {firsts_1 : (List Int)} {before_2 : (Option S_row)} {sum_3 : Int} {r : (Bool × S_floorSearch)}, self (s_0, firsts_1, before_2, sum_3) = some r → FL Try.prog cfg 159 [.ptr true [(.imm, .sc (.int .i64 s_0.room.Width)), (.imm, .sc (.int .i64 s_0.room.Length)), (.imm, .sc (.int .i64 s_0.stock.Board)), (.imm, .sc (.int .i64 s_0.stock.Wide)), (.imm, .sc (.int .i64 s_0.stock.Least)), (.imm, .sc (.int .i64 s_0.stock.Stagger)), (.imm, .sc (.int .i64 s_0.step)), (.imm, .sc (.int .i64 s_0.rows)), (.imm, .sc (.int .i64 s_0.left)), (.imm, .sc (.bool s_0.found)), (.sh, .row 1 (List.map eI s_0.best)), (.imm, .sc (.int .i64 s_0.least))], .mv 1 (List.map eI firsts_1), .im 2 false [eO e_S_row before_2], .im 2 false [.sc (.int .i64 sum_3)]] = some ([(false, [.im 0 (.sc (.bool r.1))])], [.ptr true [(.imm, .sc (.int .i64 r.2.room.Width)), (.imm, .sc (.int .i64 r.2.room.Length)), (.imm, .sc (.int .i64 r.2.stock.Board)), (.imm, .sc (.int .i64 r.2.stock.Wide)), (.imm, .sc (.int .i64 r.2.stock.Least)), (.imm, .sc (.int .i64 r.2.stock.Stagger)), (.imm, .sc (.int .i64 r.2.step)), (.imm, .sc (.int .i64 r.2.rows)), (.imm, .sc (.int .i64 r.2.left)), (.imm, .sc (.bool r.2.found)), (.sh, .row 1 (List.map eI r.2.best)), (.imm, .sc (.int .i64 r.2.least))]])) {s_0 : S_floorSearch} {firsts_1 : (List Int)} {before_2 : (Option S_row)} {sum_3 : Int} {r : (Bool × S_floorSearch)} (h : impl_floorSearch_run_F self s_0 firsts_1 before_2 sum_3 = some r) : FL Try.prog cfg 159 [.ptr true [(.imm, .sc (.int .i64 s_0.room.Width)), (.imm, .sc (.int .i64 s_0.room.Length)), (.imm, .sc (.int .i64 s_0.stock.Board)), (.imm, .sc (.int .i64 s_0.stock.Wide)), (.imm, .sc (.int .i64 s_0.stock.Least)), (.imm, .sc (.int .i64 s_0.stock.Stagger)), (.imm, .sc (.int .i64 s_0.step)), (.imm, .sc (.int .i64 s_0.rows)), (.imm, .sc (.int .i64 s_0.left)), (.imm, .sc (.bool s_0.found)), (.sh, .row 1 (List.map eI s_0.best)), (.imm, .sc (.int .i64 s_0.least))], .mv 1 (List.map eI firsts_1), .im 2 false [eO e_S_row before_2], .im 2 false [.sc (.int .i64 sum_3)]] = some ([(false, [.im 0 (.sc (.bool r.1))])], [.ptr true [(.imm, .sc (.int .i64 r.2.room.Width)), (.imm, .sc (.int .i64 r.2.room.Length)), (.imm, .sc (.int .i64 r.2.stock.Board)), (.imm, .sc (.int .i64 r.2.stock.Wide)), (.imm, .sc (.int .i64 r.2.stock.Least)), (.imm, .sc (.int .i64 r.2.stock.Stagger)), (.imm, .sc (.int .i64 r.2.step)), (.imm, .sc (.int .i64 r.2.rows)), (.imm, .sc (.int .i64 r.2.left)), (.imm, .sc (.bool r.2.found)), (.sh, .row 1 (List.map eI r.2.best)), (.imm, .sc (.int .i64 r.2.least))]]) := by
  unfold impl_floorSearch_run_F at h
  refine FL_goS (A := [(0, .v false [.mp 0 0 0]), (1, .v false [.own 1 0 0]), (2, .v false [.im 2 (eO e_S_row before_2)]), (3, .v false [.im 2 (.sc (.int .i64 sum_3))])]) (B := [(0, some ⟨0, 0, true, true, false, true, [⟨.imm, 0, 0, .sc (.int .i64 s_0.room.Width)⟩, ⟨.imm, 0, 0, .sc (.int .i64 s_0.room.Length)⟩, ⟨.imm, 0, 0, .sc (.int .i64 s_0.stock.Board)⟩, ⟨.imm, 0, 0, .sc (.int .i64 s_0.stock.Wide)⟩, ⟨.imm, 0, 0, .sc (.int .i64 s_0.stock.Least)⟩, ⟨.imm, 0, 0, .sc (.int .i64 s_0.stock.Stagger)⟩, ⟨.imm, 0, 0, .sc (.int .i64 s_0.step)⟩, ⟨.imm, 0, 0, .sc (.int .i64 s_0.rows)⟩, ⟨.imm, 0, 0, .sc (.int .i64 s_0.left)⟩, ⟨.imm, 0, 0, .sc (.bool s_0.found)⟩, ⟨.sh, 0, 0, .row 1 (List.map eI s_0.best)⟩, ⟨.imm, 0, 0, .sc (.int .i64 s_0.least)⟩]⟩), (1, some ⟨0, 0, false, false, false, false, [⟨.sh, 0, 0, .row 1 (List.map eI firsts_1)⟩]⟩), (2, none), (3, none)]) (nt := 115) rfl rfl Try.func159 rfl rfl rfl rfl ?_
  refine Go.seq ?_
  refine Go.r0 c159 rfl rfl (sq z159 (oAsI rfl rfl) <| nl) ?_
  refine Unw.seq ?_
  refine Go.seq ?_
  refine Go.seq ?_
  refine Go.r0 c159 rfl rfl (sq z159 (oMv rfl rfl) <| sq z159 (oLnO rfl rfl uF27 rfl rfl rfl (fun e => nomatch e)) <| sq z159 (oMv rfl rfl) <| sq z159 (oNl rfl rfl rfl) <| sq z159 (oFA (r' := .mp 0 0 7) rfl fF250_3 rfl rfl) <| sq z159 (oLd (cs := [.im 0 _]) rfl tF3 rfl rfl) <| sq z159 (oBi rfl rfl rfl rfl) <| nl) ?_
  refine Unw.seq ?_
  by_cases hc1 : (firsts_1.length : Int) = s_0.rows
  · rw [if_pos hc1] at h
    refine Go.condT rfl (iEq.2 hc1) ?_
    refine Go.seq ?_
    refine Go.r0 c159 rfl rfl (sq z159 (oMv rfl rfl) <| sq z159 (oMv rfl rfl) <| sq z159 (oMv rfl rfl) <| sq z159 (oMv rfl rfl) <| sq z159 (oMv rfl rfl) <| sq z159 (oNl rfl rfl rfl) <| sq z159 (oFA (r' := .mp 0 0 9) rfl fF250_5 rfl rfl) <| sq z159 (oSt tF4 rfl rfl rfl (tkI tk0) rfl rfl rfl) <| sq z159 (oNl rfl rfl rfl) <| sq z159 (oFA (r' := .mp 0 0 10) rfl fF250_6 rfl rfl) <| sq z159 (oSt tF27 rfl rfl rfl (tkO rfl rfl tk0) rfl rfl rfl) <| sq z159 (oNl rfl rfl rfl) <| sq z159 (oFA (r' := .mp 0 0 11) rfl fF250_7 rfl rfl) <| sq z159 (oSt tF2 rfl rfl rfl (tkI tk0) rfl rfl rfl) <| nl) ?_
    refine Unw.seq ?_
    refine Go.seq ?_
    refine Go.r1 c159 rfl rfl (st1 := mk [] [(0, some ⟨0, 0, true, true, false, true, [⟨.imm, 0, 0, .sc (.int .i64 s_0.room.Width)⟩, ⟨.imm, 0, 0, .sc (.int .i64 s_0.room.Length)⟩, ⟨.imm, 0, 0, .sc (.int .i64 s_0.stock.Board)⟩, ⟨.imm, 0, 0, .sc (.int .i64 s_0.stock.Wide)⟩, ⟨.imm, 0, 0, .sc (.int .i64 s_0.stock.Least)⟩, ⟨.imm, 0, 0, .sc (.int .i64 s_0.stock.Stagger)⟩, ⟨.imm, 0, 0, .sc (.int .i64 s_0.step)⟩, ⟨.imm, 0, 0, .sc (.int .i64 s_0.rows)⟩, ⟨.imm, 0, 0, .sc (.int .i64 s_0.left)⟩, ⟨.imm, 0, 0, .sc (.bool true)⟩, ⟨.sh, 0, 0, .row 1 (List.map eI firsts_1)⟩, ⟨.imm, 0, 0, .sc (.int .i64 sum_3)⟩]⟩)]) (by kernel_rfl) (sq z159 (oAsI rfl rfl) <| nl) ?_
    refine Unw.seq ?_
    refine Go.ret (Unw.ret ?_)
    cases h
    exact Fin_ret (fin_of rfl rF159 rfl (by kernel_rfl))
  · rw [if_neg hc1] at h
    refine Go.condF rfl (byF iEq hc1) ?_
    refine Go.skip ?_
    refine Unw.seq ?_
    refine Go.seq ?_
    refine Go.seq ?_
    refine Go.r0 c159 rfl rfl (sq z159 (oMv rfl rfl) <| sq z159 (oNl rfl rfl rfl) <| sq z159 (oFA (r' := .mp 0 0 2) rfl fF250_1 rfl rfl) <| sq z159 (oFA (r' := .mp 0 0 2) rfl fF101_0 rfl rfl) <| sq z159 (oLd (cs := [.im 0 _]) rfl tF2 rfl rfl) <| sq z159 (oAsI rfl rfl) <| nl) ?_
    refine Unw.seq ?_
    refine Go.block ?_
    obtain ⟨o, hl, h⟩ := bs h
    refine Go.lp c159 rfl _ (fun (s : (Int × Int × Int × Int × Int × Int × Int × Int × Int × Int × Bool × (List Int) × Int)) => match s with | (first_9_l5, s_o0_0_l5, s_o0_1_l5, s_o0_2_l5, s_o0_3_l5, s_o0_4_l5, s_o0_5_l5, s_o0_6_l5, s_o0_7_l5, s_o0_8_l5, s_o0_9_l5, s_o0_10_l5, s_o0_11_l5) => mk [(0, .v false [.mp 0 0 0]), (1, .v false [.own 1 0 0]), (2, .v false [.im (tagOf 2 (eO e_S_row before_2)) (eO e_S_row before_2)]), (3, iv sum_3), (9, iv first_9_l5)] [(0, some ⟨0, 0, true, true, false, true, [⟨.imm, 0, 0, .sc (.int .i64 s_o0_0_l5)⟩, ⟨.imm, 0, 0, .sc (.int .i64 s_o0_1_l5)⟩, ⟨.imm, 0, 0, .sc (.int .i64 s_o0_2_l5)⟩, ⟨.imm, 0, 0, .sc (.int .i64 s_o0_3_l5)⟩, ⟨.imm, 0, 0, .sc (.int .i64 s_o0_4_l5)⟩, ⟨.imm, 0, 0, .sc (.int .i64 s_o0_5_l5)⟩, ⟨.imm, 0, 0, .sc (.int .i64 s_o0_6_l5)⟩, ⟨.imm, 0, 0, .sc (.int .i64 s_o0_7_l5)⟩, ⟨.imm, 0, 0, .sc (.int .i64 s_o0_8_l5)⟩, ⟨.imm, 0, 0, .sc (.bool s_o0_9_l5)⟩, ⟨.sh, 0, 0, .row 1 (List.map eI s_o0_10_l5)⟩, ⟨.imm, 0, 0, .sc (.int .i64 s_o0_11_l5)⟩]⟩), (1, some ⟨0, 0, false, false, false, false, [⟨.sh, 0, 0, .row 1 (List.map eI firsts_1)⟩]⟩)]) (fun (o : ((Int × Int × Int × Int × Int × Int × Int × Int × Int × Bool × (List Int) × Int) ⊕ (Bool × S_floorSearch))) (p : Ex × St) => match o with | (.inl (s_o0_0_e0_5, s_o0_1_e0_5, s_o0_2_e0_5, s_o0_3_e0_5, s_o0_4_e0_5, s_o0_5_e0_5, s_o0_6_e0_5, s_o0_7_e0_5, s_o0_8_e0_5, s_o0_9_e0_5, s_o0_10_e0_5, s_o0_11_e0_5)) => p.1 = .exit 0 ∧ p.2.norm ([], [0]) = mk [] [(0, some ⟨0, 0, true, true, false, true, [⟨.imm, 0, 0, .sc (.int .i64 s_o0_0_e0_5)⟩, ⟨.imm, 0, 0, .sc (.int .i64 s_o0_1_e0_5)⟩, ⟨.imm, 0, 0, .sc (.int .i64 s_o0_2_e0_5)⟩, ⟨.imm, 0, 0, .sc (.int .i64 s_o0_3_e0_5)⟩, ⟨.imm, 0, 0, .sc (.int .i64 s_o0_4_e0_5)⟩, ⟨.imm, 0, 0, .sc (.int .i64 s_o0_5_e0_5)⟩, ⟨.imm, 0, 0, .sc (.int .i64 s_o0_6_e0_5)⟩, ⟨.imm, 0, 0, .sc (.int .i64 s_o0_7_e0_5)⟩, ⟨.imm, 0, 0, .sc (.int .i64 s_o0_8_e0_5)⟩, ⟨.imm, 0, 0, .sc (.bool s_o0_9_e0_5)⟩, ⟨.sh, 0, 0, .row 1 (List.map eI s_o0_10_e0_5)⟩, ⟨.imm, 0, 0, .sc (.int .i64 s_o0_11_e0_5)⟩]⟩)] | (.inr r2) => p.1 = .ret ∧ fin Try.prog cfg 159 Try.f159 [.ptr true [(.imm, .sc (.int .i64 s_0.room.Width)), (.imm, .sc (.int .i64 s_0.room.Length)), (.imm, .sc (.int .i64 s_0.stock.Board)), (.imm, .sc (.int .i64 s_0.stock.Wide)), (.imm, .sc (.int .i64 s_0.stock.Least)), (.imm, .sc (.int .i64 s_0.stock.Stagger)), (.imm, .sc (.int .i64 s_0.step)), (.imm, .sc (.int .i64 s_0.rows)), (.imm, .sc (.int .i64 s_0.left)), (.imm, .sc (.bool s_0.found)), (.sh, .row 1 (List.map eI s_0.best)), (.imm, .sc (.int .i64 s_0.least))], .mv 1 (List.map eI firsts_1), .im 2 false [eO e_S_row before_2], .im 2 false [.sc (.int .i64 sum_3)]] p.2 = some ([(false, [.im 0 (.sc (.bool r2.1))])], [.ptr true [(.imm, .sc (.int .i64 r2.2.room.Width)), (.imm, .sc (.int .i64 r2.2.room.Length)), (.imm, .sc (.int .i64 r2.2.stock.Board)), (.imm, .sc (.int .i64 r2.2.stock.Wide)), (.imm, .sc (.int .i64 r2.2.stock.Least)), (.imm, .sc (.int .i64 r2.2.stock.Stagger)), (.imm, .sc (.int .i64 r2.2.step)), (.imm, .sc (.int .i64 r2.2.rows)), (.imm, .sc (.int .i64 r2.2.left)), (.imm, .sc (.bool r2.2.found)), (.sh, .row 1 (List.map eI r2.2.best)), (.imm, .sc (.int .i64 r2.2.least))]])) hl (by kernel_rfl) ?_ ?_ ?_
    · intro o p hp e
      rcases o with ⟨s_o0_0_e0_5, s_o0_1_e0_5, s_o0_2_e0_5, s_o0_3_e0_5, s_o0_4_e0_5, s_o0_5_e0_5, s_o0_6_e0_5, s_o0_7_e0_5, s_o0_8_e0_5, s_o0_9_e0_5, s_o0_10_e0_5, s_o0_11_e0_5⟩ | r2 <;> exact nomatch (hp.1.symm.trans e)
    · rintro ⟨first_9_l5, s_o0_0_l5, s_o0_1_l5, s_o0_2_l5, s_o0_3_l5, s_o0_4_l5, s_o0_5_l5, s_o0_6_l5, s_o0_7_l5, s_o0_8_l5, s_o0_9_l5, s_o0_10_l5, s_o0_11_l5⟩ o h
      unfold impl_floorSearch_run_l5 at h
      dsimp only at h
      refine Go.seq ?_
      refine Go.seq ?_
      refine Go.r0 c159 rfl rfl (sq z159 (oMv rfl rfl) <| sq z159 (oMv rfl rfl) <| sq z159 (oNl rfl rfl rfl) <| sq z159 (oFA (r' := .mp 0 0 2) rfl fF250_1 rfl rfl) <| sq z159 (oFA (r' := .mp 0 0 4) rfl fF101_2 rfl rfl) <| sq z159 (oLd (cs := [.im 0 _]) rfl tF2 rfl rfl) <| sq z159 (oBi rfl rfl rfl rfl) <| nl) ?_
      refine Unw.seq ?_
      by_cases hc22 : first_9_l5 ≥ s_o0_4_l5
      · rw [if_pos hc22] at h
        refine Go.condT rfl (iDec.2 hc22) ?_
        refine Go.skip ?_
        refine Unw.seq ?_
        refine Go.seq ?_
        refine Go.join (fun st => ∃ s_o0_0_r6, ∃ s_o0_1_r6, ∃ s_o0_2_r6, ∃ s_o0_3_r6, ∃ s_o0_4_r6, ∃ s_o0_5_r6, ∃ s_o0_6_r6, ∃ s_o0_7_r6, ∃ s_o0_8_r6, ∃ s_o0_9_r6, ∃ s_o0_10_r6, ∃ s_o0_11_r6, impl_floorSearch_run_k6 self first_9_l5 s_o0_0_r6 s_o0_1_r6 s_o0_2_r6 s_o0_3_r6 s_o0_4_r6 s_o0_5_r6 s_o0_6_r6 s_o0_7_r6 s_o0_8_r6 s_o0_9_r6 s_o0_10_r6 s_o0_11_r6 = some o ∧ st.norm ([0, 1, 2, 3, 9], [0, 1]) = mk [(0, .v false [.mp 0 0 0]), (1, .v false [.own 1 0 0]), (2, .v false [.im (tagOf 2 (eO e_S_row before_2)) (eO e_S_row before_2)]), (3, iv sum_3), (9, iv first_9_l5)] [(0, some ⟨0, 0, true, true, false, true, [⟨.imm, 0, 0, .sc (.int .i64 s_o0_0_r6)⟩, ⟨.imm, 0, 0, .sc (.int .i64 s_o0_1_r6)⟩, ⟨.imm, 0, 0, .sc (.int .i64 s_o0_2_r6)⟩, ⟨.imm, 0, 0, .sc (.int .i64 s_o0_3_r6)⟩, ⟨.imm, 0, 0, .sc (.int .i64 s_o0_4_r6)⟩, ⟨.imm, 0, 0, .sc (.int .i64 s_o0_5_r6)⟩, ⟨.imm, 0, 0, .sc (.int .i64 s_o0_6_r6)⟩, ⟨.imm, 0, 0, .sc (.int .i64 s_o0_7_r6)⟩, ⟨.imm, 0, 0, .sc (.int .i64 s_o0_8_r6)⟩, ⟨.imm, 0, 0, .sc (.bool s_o0_9_r6)⟩, ⟨.sh, 0, 0, .row 1 (List.map eI s_o0_10_r6)⟩, ⟨.imm, 0, 0, .sc (.int .i64 s_o0_11_r6)⟩]⟩), (1, some ⟨0, 0, false, false, false, false, [⟨.sh, 0, 0, .row 1 (List.map eI firsts_1)⟩]⟩)]) ?_ ?_
        · rintro st ⟨s_o0_0_r6, s_o0_1_r6, s_o0_2_r6, s_o0_3_r6, s_o0_4_r6, s_o0_5_r6, s_o0_6_r6, s_o0_7_r6, s_o0_8_r6, s_o0_9_r6, s_o0_10_r6, s_o0_11_r6, h, hst⟩
          unfold impl_floorSearch_run_k6 at h
          refine Unw.seq ?_
          refine Go.r1 c159 rfl rfl hst (sq z159 (oMv rfl rfl) <| sq z159 (oMv rfl rfl) <| sq z159 (oNl rfl rfl rfl) <| sq z159 (oFA (r' := .mp 0 0 6) rfl fF250_2 rfl rfl) <| sq z159 (oLd (cs := [.im 0 _]) rfl tF2 rfl rfl) <| sq z159 (oBi rfl rfl rfl rfl) <| sq z159 (oAsI rfl rfl) <| nl) ?_
          refine Unw.nil ?_
          cases h
          exact ⟨rfl, (by first | (cases before_2 <;> kernel_rfl) | kernel_rfl)⟩
        · intro K32
          refine Go.block ?_
          refine Go.seq ?_
          obtain ⟨x60, hx60, h⟩ := bs h
          refine Go.dr c159 rfl rfl rfl rfl (mk [(0, .v false [.mp 0 0 0]), (1, .v false [.own 1 0 0]), (2, .v false [.im (tagOf 2 (eO e_S_row before_2)) (eO e_S_row before_2)]), (3, iv sum_3), (9, iv first_9_l5), (10, .v false [.mp 10 0 0]), (11, bv x60.2)] [(0, some ⟨0, 0, true, true, false, true, [⟨.imm, 0, 0, .sc (.int .i64 s_o0_0_l5)⟩, ⟨.imm, 0, 0, .sc (.int .i64 s_o0_1_l5)⟩, ⟨.imm, 0, 0, .sc (.int .i64 s_o0_2_l5)⟩, ⟨.imm, 0, 0, .sc (.int .i64 s_o0_3_l5)⟩, ⟨.imm, 0, 0, .sc (.int .i64 s_o0_4_l5)⟩, ⟨.imm, 0, 0, .sc (.int .i64 s_o0_5_l5)⟩, ⟨.imm, 0, 0, .sc (.int .i64 s_o0_6_l5)⟩, ⟨.imm, 0, 0, .sc (.int .i64 s_o0_7_l5)⟩, ⟨.imm, 0, 0, .sc (.int .i64 s_o0_8_l5)⟩, ⟨.imm, 0, 0, .sc (.bool s_o0_9_l5)⟩, ⟨.sh, 0, 0, .row 1 (List.map eI s_o0_10_l5)⟩, ⟨.imm, 0, 0, .sc (.int .i64 s_o0_11_l5)⟩]⟩), (1, some ⟨0, 0, false, false, false, false, [⟨.sh, 0, 0, .row 1 (List.map eI firsts_1)⟩]⟩), (10, some ⟨0, 0, false, true, false, true, [⟨.sh, 0, 0, .row 1 (List.map eI x60.1.pieces)⟩, ⟨.sh, 0, 0, .row 1 (List.map eI x60.1.joints)⟩, ⟨.imm, 0, 0, .sc (.int .i64 x60.1.last)⟩]⟩)]) (sT rfl (dN z159 rfl (oMv rfl rfl)) <| sT rfl (dN z159 rfl (oNl rfl rfl rfl)) <| sT rfl (dN z159 rfl (oFA (r' := .mp 0 0 0) rfl fF250_0 rfl rfl)) <| sT rfl (dN z159 rfl (oLd (cs := [.im 0 _, .im 0 _]) rfl tF99 rfl rfl)) <| sT rfl (dN z159 rfl (oMv rfl rfl)) <| sT rfl (dN z159 rfl (oNl rfl rfl rfl)) <| sT rfl (dN z159 rfl (oFA (r' := .mp 0 0 2) rfl fF250_1 rfl rfl)) <| sT rfl (dN z159 rfl (oLd (cs := [.im 0 _, .im 0 _, .im 0 _, .im 0 _]) rfl tF101 rfl rfl)) <| sT rfl (dN z159 rfl (oMv rfl rfl)) <| sT rfl (dN z159 rfl (oMv rfl rfl)) <| sF (dN z159 rfl (oCr (xs := [.v true [.im 0 _, .im 0 _], .v true [.im 0 _, .im 0 _, .im 0 _, .im 0 _], .v false [.im _ _], .v false [.im 0 _]]) (vs := [(true, [.own 60 0 0, .own 60 0 1, .im 0 _]), (false, [.im 0 _])]) (v := .tup [(true, [.own 60 0 0, .own 60 0 1, .im 0 _]), (false, [.im 0 _])]) (c := ⟨.sh, 0, _⟩) (cs := [⟨.sh, 0, _⟩]) (L_impl_possible hx60) (.inl rfl) rfl kF161_99_101_252_2 rfl (ppC rfl (ppC rfl (ppC rfl (ppC rfl pp0)))) rfl rfl pb0 rfl rfl rfl)) trivial (sT rfl (dN z159 rfl (oMvT rfl rfl)) <| sT rfl (dN z159 rfl (oEx rfl rfl rfl)) <| sT rfl (dN z159 rfl (oEx rfl rfl rfl)) <| sS (dN z159 rfl (oAl rfl tF255 (tkN (tkN (tkI tk0))))) trivial (sS (dN z159 rfl (oSt tF255 rfl rfl rfl (tkO rfl rfl (tkO rfl rfl (tkI tk0))) rfl rfl rfl)) trivial (sS (dN z159 rfl (oAsI rfl rfl)) trivial (sD (by first | (cases before_2 <;> kernel_rfl) | kernel_rfl))))) (sS (dN z159 rfl (oAl rfl tF255 (tkN (tkN (tkI tk0))))) trivial (sS (dN z159 rfl (oCr (xs := [.v true [.im 0 _, .im 0 _], .v true [.im 0 _, .im 0 _, .im 0 _, .im 0 _], .v false [.im _ _], .v false [.im 0 _]]) (vs := [(true, [.own 60 0 0, .own 60 0 1, .im 0 _]), (false, [.im 0 _])]) (v := .tup [(true, [.own 60 0 0, .own 60 0 1, .im 0 _]), (false, [.im 0 _])]) (c := ⟨.sh, 0, _⟩) (cs := [⟨.sh, 0, _⟩]) (L_impl_possible hx60) (.inl rfl) rfl kF161_99_101_252_2 rfl (ppC rfl (ppC rfl (ppC rfl (ppC rfl pp0)))) rfl rfl pb0 rfl rfl rfl)) trivial (sT rfl (dN z159 rfl (oMvT rfl rfl)) <| sT rfl (dN z159 rfl (oEx rfl rfl rfl)) <| sT rfl (dN z159 rfl (oEx rfl rfl rfl)) <| sS (dN z159 rfl (oSt tF255 rfl rfl rfl (tkO rfl rfl (tkO rfl rfl (tkI tk0))) rfl rfl rfl)) trivial (sS (dN z159 rfl (oAsI rfl rfl)) trivial (sD (by first | (cases before_2 <;> kernel_rfl) | kernel_rfl))))))) ?_
          refine Unw.seq ?_
          refine Go.seq ?_
          refine Go.seq ?_
          refine Go.r0 c159 rfl rfl (sq z159 (oMv rfl rfl) <| sq z159 (oUn rfl rfl rfl) <| nl) ?_
          refine Unw.seq ?_
          by_cases hc33 : x60.2 = true
          · rw [if_pos hc33] at h
            refine Go.condF rfl (nF (Iff.rfl.2 hc33)) ?_
            refine Go.skip ?_
            refine Unw.seq ?_
            refine Go.seq ?_
            refine Go.r0 c159 rfl rfl (sq z159 (oMv rfl rfl) <| sq z159 (oFA (r' := .mp 10 0 0) rfl fF255_0 rfl rfl) <| sq z159 (oLd (cs := [.own 10 0 0]) rfl tF27 rfl rfl) <| sq z159 (oLnO rfl rfl uF27 rfl rfl rfl (fun e => nomatch e)) <| sq z159 (oBi rfl rfl rfl rfl) <| sq z159 (oAsI rfl rfl) <| nl) ?_
            refine Unw.seq ?_
            refine Go.seq ?_
            refine Go.seq ?_
            obtain ⟨t_71_m10, hm44, h⟩ := bs h
            refine Go.rX c159 rfl rfl rfl (mk [(0, .v false [.mp 0 0 0]), (1, .v false [.own 1 0 0]), (2, .v false [.im (tagOf 2 (eO e_S_row before_2)) (eO e_S_row before_2)]), (3, iv sum_3), (9, iv first_9_l5), (10, .v false [.mp 10 0 0]), (12, iv (w64 (sum_3 + (x60.1.pieces.length : Int)))), (71, bv t_71_m10)] [(0, some ⟨0, 0, true, true, false, true, [⟨.imm, 0, 0, .sc (.int .i64 s_o0_0_l5)⟩, ⟨.imm, 0, 0, .sc (.int .i64 s_o0_1_l5)⟩, ⟨.imm, 0, 0, .sc (.int .i64 s_o0_2_l5)⟩, ⟨.imm, 0, 0, .sc (.int .i64 s_o0_3_l5)⟩, ⟨.imm, 0, 0, .sc (.int .i64 s_o0_4_l5)⟩, ⟨.imm, 0, 0, .sc (.int .i64 s_o0_5_l5)⟩, ⟨.imm, 0, 0, .sc (.int .i64 s_o0_6_l5)⟩, ⟨.imm, 0, 0, .sc (.int .i64 s_o0_7_l5)⟩, ⟨.imm, 0, 0, .sc (.int .i64 s_o0_8_l5)⟩, ⟨.imm, 0, 0, .sc (.bool s_o0_9_l5)⟩, ⟨.sh, 0, 0, .row 1 (List.map eI s_o0_10_l5)⟩, ⟨.imm, 0, 0, .sc (.int .i64 s_o0_11_l5)⟩]⟩), (1, some ⟨0, 0, false, false, false, false, [⟨.sh, 0, 0, .row 1 (List.map eI firsts_1)⟩]⟩), (10, some ⟨0, 0, false, true, false, true, [⟨.sh, 0, 0, .row 1 (List.map eI x60.1.pieces)⟩, ⟨.sh, 0, 0, .row 1 (List.map eI x60.1.joints)⟩, ⟨.imm, 0, 0, .sc (.int .i64 x60.1.last)⟩]⟩)]) ?_ ?_
            · cases before_2 with
              | none =>
                cases hm44
                exact ⟨_, sq z159 (oMv rfl rfl) <| sq z159 (oBiU rfl uF252 rfl rfl rfl) <| nl, (by first | (cases before_2 <;> kernel_rfl) | kernel_rfl)⟩
              | some ohc34 =>
                cases hm44
                exact ⟨_, sq z159 (oMv rfl rfl) <| sq z159 (oBiU rfl uF252 rfl rfl rfl) <| nl, (by first | (cases before_2 <;> kernel_rfl) | kernel_rfl)⟩
            · refine Unw.seq ?_
              refine Go.join (fun st => ∃ own_12_r12, impl_floorSearch_run_k12 self first_9_l5 firsts_1 s_o0_0_l5 s_o0_10_l5 s_o0_11_l5 s_o0_1_l5 s_o0_2_l5 s_o0_3_l5 s_o0_4_l5 s_o0_5_l5 s_o0_6_l5 s_o0_7_l5 s_o0_8_l5 s_o0_9_l5 x60 own_12_r12 = some o ∧ st.norm ([0, 1, 2, 3, 9, 10, 12], [0, 1, 10]) = mk [(0, .v false [.mp 0 0 0]), (1, .v false [.own 1 0 0]), (2, .v false [.im (tagOf 2 (eO e_S_row before_2)) (eO e_S_row before_2)]), (3, iv sum_3), (9, iv first_9_l5), (10, .v false [.mp 10 0 0]), (12, iv own_12_r12)] [(0, some ⟨0, 0, true, true, false, true, [⟨.imm, 0, 0, .sc (.int .i64 s_o0_0_l5)⟩, ⟨.imm, 0, 0, .sc (.int .i64 s_o0_1_l5)⟩, ⟨.imm, 0, 0, .sc (.int .i64 s_o0_2_l5)⟩, ⟨.imm, 0, 0, .sc (.int .i64 s_o0_3_l5)⟩, ⟨.imm, 0, 0, .sc (.int .i64 s_o0_4_l5)⟩, ⟨.imm, 0, 0, .sc (.int .i64 s_o0_5_l5)⟩, ⟨.imm, 0, 0, .sc (.int .i64 s_o0_6_l5)⟩, ⟨.imm, 0, 0, .sc (.int .i64 s_o0_7_l5)⟩, ⟨.imm, 0, 0, .sc (.int .i64 s_o0_8_l5)⟩, ⟨.imm, 0, 0, .sc (.bool s_o0_9_l5)⟩, ⟨.sh, 0, 0, .row 1 (List.map eI s_o0_10_l5)⟩, ⟨.imm, 0, 0, .sc (.int .i64 s_o0_11_l5)⟩]⟩), (1, some ⟨0, 0, false, false, false, false, [⟨.sh, 0, 0, .row 1 (List.map eI firsts_1)⟩]⟩), (10, some ⟨0, 0, false, true, false, true, [⟨.sh, 0, 0, .row 1 (List.map eI x60.1.pieces)⟩, ⟨.sh, 0, 0, .row 1 (List.map eI x60.1.joints)⟩, ⟨.imm, 0, 0, .sc (.int .i64 x60.1.last)⟩]⟩)]) ?_ ?_
              · rintro st ⟨own_12_r12, h, hst⟩
                unfold impl_floorSearch_run_k12 at h
                refine Unw.seq ?_
                refine Go.seq ?_
                refine Go.seq ?_
                refine Go.rX c159 rfl rfl hst (mk [(0, .v false [.mp 0 0 0]), (1, .v false [.own 1 0 0]), (2, .v false [.im (tagOf 2 (eO e_S_row before_2)) (eO e_S_row before_2)]), (3, iv sum_3), (9, iv first_9_l5), (10, .v false [.mp 10 0 0]), (12, iv own_12_r12), (94, bv (s_o0_9_l5 && (decide (own_12_r12 ≥ s_o0_11_l5))))] [(0, some ⟨0, 0, true, true, false, true, [⟨.imm, 0, 0, .sc (.int .i64 s_o0_0_l5)⟩, ⟨.imm, 0, 0, .sc (.int .i64 s_o0_1_l5)⟩, ⟨.imm, 0, 0, .sc (.int .i64 s_o0_2_l5)⟩, ⟨.imm, 0, 0, .sc (.int .i64 s_o0_3_l5)⟩, ⟨.imm, 0, 0, .sc (.int .i64 s_o0_4_l5)⟩, ⟨.imm, 0, 0, .sc (.int .i64 s_o0_5_l5)⟩, ⟨.imm, 0, 0, .sc (.int .i64 s_o0_6_l5)⟩, ⟨.imm, 0, 0, .sc (.int .i64 s_o0_7_l5)⟩, ⟨.imm, 0, 0, .sc (.int .i64 s_o0_8_l5)⟩, ⟨.imm, 0, 0, .sc (.bool s_o0_9_l5)⟩, ⟨.sh, 0, 0, .row 1 (List.map eI s_o0_10_l5)⟩, ⟨.imm, 0, 0, .sc (.int .i64 s_o0_11_l5)⟩]⟩), (1, some ⟨0, 0, false, false, false, false, [⟨.sh, 0, 0, .row 1 (List.map eI firsts_1)⟩]⟩), (10, some ⟨0, 0, false, true, false, true, [⟨.sh, 0, 0, .row 1 (List.map eI x60.1.pieces)⟩, ⟨.sh, 0, 0, .row 1 (List.map eI x60.1.joints)⟩, ⟨.imm, 0, 0, .sc (.int .i64 x60.1.last)⟩]⟩)]) ?_ ?_
                · by_cases hc37 : s_o0_9_l5 = true
                  · exact ⟨_, sq z159 (oMv rfl rfl) <| sq z159 (oNl rfl rfl rfl) <| sq z159 (oFA (r' := .mp 0 0 9) rfl fF250_5 rfl rfl) <| sq z159 (oLd (cs := [.im 0 _]) rfl tF4 rfl rfl) <| sq z159 (oMv rfl rfl) <| sgT z159 rfl rfl (Iff.rfl.2 hc37) (oMv rfl rfl) <| sgT z159 rfl rfl (Iff.rfl.2 hc37) (oMv rfl rfl) <| sgT z159 rfl rfl (Iff.rfl.2 hc37) (oNl rfl rfl rfl) <| sgT z159 rfl rfl (Iff.rfl.2 hc37) (oFA (r' := .mp 0 0 11) rfl fF250_7 rfl rfl) <| sgT z159 rfl rfl (Iff.rfl.2 hc37) (oLd (cs := [.im 0 _]) rfl tF2 rfl rfl) <| sgT z159 rfl rfl (Iff.rfl.2 hc37) (oBi rfl rfl rfl rfl) <| sq z159 (oPkT rfl rfl (Iff.rfl.2 hc37) rfl) <| nl, (Eq.trans (b := (fun t_94_m12 : Bool => mk [(0, .v false [.mp 0 0 0]), (1, .v false [.own 1 0 0]), (2, .v false [.im (tagOf 2 (eO e_S_row before_2)) (eO e_S_row before_2)]), (3, iv sum_3), (9, iv first_9_l5), (10, .v false [.mp 10 0 0]), (12, iv own_12_r12), (94, bv t_94_m12)] [(0, some ⟨0, 0, true, true, false, true, [⟨.imm, 0, 0, .sc (.int .i64 s_o0_0_l5)⟩, ⟨.imm, 0, 0, .sc (.int .i64 s_o0_1_l5)⟩, ⟨.imm, 0, 0, .sc (.int .i64 s_o0_2_l5)⟩, ⟨.imm, 0, 0, .sc (.int .i64 s_o0_3_l5)⟩, ⟨.imm, 0, 0, .sc (.int .i64 s_o0_4_l5)⟩, ⟨.imm, 0, 0, .sc (.int .i64 s_o0_5_l5)⟩, ⟨.imm, 0, 0, .sc (.int .i64 s_o0_6_l5)⟩, ⟨.imm, 0, 0, .sc (.int .i64 s_o0_7_l5)⟩, ⟨.imm, 0, 0, .sc (.int .i64 s_o0_8_l5)⟩, ⟨.imm, 0, 0, .sc (.bool s_o0_9_l5)⟩, ⟨.sh, 0, 0, .row 1 (List.map eI s_o0_10_l5)⟩, ⟨.imm, 0, 0, .sc (.int .i64 s_o0_11_l5)⟩]⟩), (1, some ⟨0, 0, false, false, false, false, [⟨.sh, 0, 0, .row 1 (List.map eI firsts_1)⟩]⟩), (10, some ⟨0, 0, false, true, false, true, [⟨.sh, 0, 0, .row 1 (List.map eI x60.1.pieces)⟩, ⟨.sh, 0, 0, .row 1 (List.map eI x60.1.joints)⟩, ⟨.imm, 0, 0, .sc (.int .i64 x60.1.last)⟩]⟩)]) (decide (own_12_r12 ≥ s_o0_11_l5))) (by first | (cases before_2 <;> kernel_rfl) | kernel_rfl) (congrArg (fun t_94_m12 : Bool => mk [(0, .v false [.mp 0 0 0]), (1, .v false [.own 1 0 0]), (2, .v false [.im (tagOf 2 (eO e_S_row before_2)) (eO e_S_row before_2)]), (3, iv sum_3), (9, iv first_9_l5), (10, .v false [.mp 10 0 0]), (12, iv own_12_r12), (94, bv t_94_m12)] [(0, some ⟨0, 0, true, true, false, true, [⟨.imm, 0, 0, .sc (.int .i64 s_o0_0_l5)⟩, ⟨.imm, 0, 0, .sc (.int .i64 s_o0_1_l5)⟩, ⟨.imm, 0, 0, .sc (.int .i64 s_o0_2_l5)⟩, ⟨.imm, 0, 0, .sc (.int .i64 s_o0_3_l5)⟩, ⟨.imm, 0, 0, .sc (.int .i64 s_o0_4_l5)⟩, ⟨.imm, 0, 0, .sc (.int .i64 s_o0_5_l5)⟩, ⟨.imm, 0, 0, .sc (.int .i64 s_o0_6_l5)⟩, ⟨.imm, 0, 0, .sc (.int .i64 s_o0_7_l5)⟩, ⟨.imm, 0, 0, .sc (.int .i64 s_o0_8_l5)⟩, ⟨.imm, 0, 0, .sc (.bool s_o0_9_l5)⟩, ⟨.sh, 0, 0, .row 1 (List.map eI s_o0_10_l5)⟩, ⟨.imm, 0, 0, .sc (.int .i64 s_o0_11_l5)⟩]⟩), (1, some ⟨0, 0, false, false, false, false, [⟨.sh, 0, 0, .row 1 (List.map eI firsts_1)⟩]⟩), (10, some ⟨0, 0, false, true, false, true, [⟨.sh, 0, 0, .row 1 (List.map eI x60.1.pieces)⟩, ⟨.sh, 0, 0, .row 1 (List.map eI x60.1.joints)⟩, ⟨.imm, 0, 0, .sc (.int .i64 x60.1.last)⟩]⟩)]) (by first | rfl | (simp [(Iff.rfl.2 hc37)]; done) | (simp [(Iff.rfl.2 hc37)]; omega))))⟩
                  · exact ⟨_, sq z159 (oMv rfl rfl) <| sq z159 (oNl rfl rfl rfl) <| sq z159 (oFA (r' := .mp 0 0 9) rfl fF250_5 rfl rfl) <| sq z159 (oLd (cs := [.im 0 _]) rfl tF4 rfl rfl) <| sq z159 (oMv rfl rfl) <| sgF rfl rfl (byF Iff.rfl hc37) rfl <| sgF rfl rfl (byF Iff.rfl hc37) rfl <| sgF rfl rfl (byF Iff.rfl hc37) rfl <| sgF rfl rfl (byF Iff.rfl hc37) rfl <| sgF rfl rfl (byF Iff.rfl hc37) rfl <| sgF rfl rfl (byF Iff.rfl hc37) rfl <| sq z159 (oPkF rfl rfl (byF Iff.rfl hc37) rfl) <| nl, (Eq.trans (b := (fun t_94_m12 : Bool => mk [(0, .v false [.mp 0 0 0]), (1, .v false [.own 1 0 0]), (2, .v false [.im (tagOf 2 (eO e_S_row before_2)) (eO e_S_row before_2)]), (3, iv sum_3), (9, iv first_9_l5), (10, .v false [.mp 10 0 0]), (12, iv own_12_r12), (94, bv t_94_m12)] [(0, some ⟨0, 0, true, true, false, true, [⟨.imm, 0, 0, .sc (.int .i64 s_o0_0_l5)⟩, ⟨.imm, 0, 0, .sc (.int .i64 s_o0_1_l5)⟩, ⟨.imm, 0, 0, .sc (.int .i64 s_o0_2_l5)⟩, ⟨.imm, 0, 0, .sc (.int .i64 s_o0_3_l5)⟩, ⟨.imm, 0, 0, .sc (.int .i64 s_o0_4_l5)⟩, ⟨.imm, 0, 0, .sc (.int .i64 s_o0_5_l5)⟩, ⟨.imm, 0, 0, .sc (.int .i64 s_o0_6_l5)⟩, ⟨.imm, 0, 0, .sc (.int .i64 s_o0_7_l5)⟩, ⟨.imm, 0, 0, .sc (.int .i64 s_o0_8_l5)⟩, ⟨.imm, 0, 0, .sc (.bool s_o0_9_l5)⟩, ⟨.sh, 0, 0, .row 1 (List.map eI s_o0_10_l5)⟩, ⟨.imm, 0, 0, .sc (.int .i64 s_o0_11_l5)⟩]⟩), (1, some ⟨0, 0, false, false, false, false, [⟨.sh, 0, 0, .row 1 (List.map eI firsts_1)⟩]⟩), (10, some ⟨0, 0, false, true, false, true, [⟨.sh, 0, 0, .row 1 (List.map eI x60.1.pieces)⟩, ⟨.sh, 0, 0, .row 1 (List.map eI x60.1.joints)⟩, ⟨.imm, 0, 0, .sc (.int .i64 x60.1.last)⟩]⟩)]) false) (by first | (cases before_2 <;> kernel_rfl) | kernel_rfl) (congrArg (fun t_94_m12 : Bool => mk [(0, .v false [.mp 0 0 0]), (1, .v false [.own 1 0 0]), (2, .v false [.im (tagOf 2 (eO e_S_row before_2)) (eO e_S_row before_2)]), (3, iv sum_3), (9, iv first_9_l5), (10, .v false [.mp 10 0 0]), (12, iv own_12_r12), (94, bv t_94_m12)] [(0, some ⟨0, 0, true, true, false, true, [⟨.imm, 0, 0, .sc (.int .i64 s_o0_0_l5)⟩, ⟨.imm, 0, 0, .sc (.int .i64 s_o0_1_l5)⟩, ⟨.imm, 0, 0, .sc (.int .i64 s_o0_2_l5)⟩, ⟨.imm, 0, 0, .sc (.int .i64 s_o0_3_l5)⟩, ⟨.imm, 0, 0, .sc (.int .i64 s_o0_4_l5)⟩, ⟨.imm, 0, 0, .sc (.int .i64 s_o0_5_l5)⟩, ⟨.imm, 0, 0, .sc (.int .i64 s_o0_6_l5)⟩, ⟨.imm, 0, 0, .sc (.int .i64 s_o0_7_l5)⟩, ⟨.imm, 0, 0, .sc (.int .i64 s_o0_8_l5)⟩, ⟨.imm, 0, 0, .sc (.bool s_o0_9_l5)⟩, ⟨.sh, 0, 0, .row 1 (List.map eI s_o0_10_l5)⟩, ⟨.imm, 0, 0, .sc (.int .i64 s_o0_11_l5)⟩]⟩), (1, some ⟨0, 0, false, false, false, false, [⟨.sh, 0, 0, .row 1 (List.map eI firsts_1)⟩]⟩), (10, some ⟨0, 0, false, true, false, true, [⟨.sh, 0, 0, .row 1 (List.map eI x60.1.pieces)⟩, ⟨.sh, 0, 0, .row 1 (List.map eI x60.1.joints)⟩, ⟨.imm, 0, 0, .sc (.int .i64 x60.1.last)⟩]⟩)]) (by first | rfl | (simp [(byF Iff.rfl hc37)]; done) | (simp [(byF Iff.rfl hc37)]; omega))))⟩
                · refine Unw.seq ?_
                  by_cases hc38 : (s_o0_9_l5 = true ∧ own_12_r12 ≥ s_o0_11_l5)
                  · rw [if_pos hc38] at h
                    refine Go.condT rfl ((iAnd Iff.rfl iDec).2 hc38) ?_
                    refine Go.exit ?_
                    refine Unw.seqx ?_
                    refine Unw.blkx ?_
                    exact K32 _ ⟨s_o0_0_l5, s_o0_1_l5, s_o0_2_l5, s_o0_3_l5, s_o0_4_l5, s_o0_5_l5, s_o0_6_l5, s_o0_7_l5, s_o0_8_l5, s_o0_9_l5, s_o0_10_l5, s_o0_11_l5, h, (by first | (cases before_2 <;> kernel_rfl) | kernel_rfl)⟩
                  · rw [if_neg hc38] at h
                    refine Go.condF rfl (byF (iAnd Iff.rfl iDec) hc38) ?_
                    refine Go.skip ?_
                    refine Unw.seq ?_
                    refine Go.seq ?_
                    refine Go.seq ?_
                    refine Go.r0 c159 rfl rfl (sq z159 (oMv rfl rfl) <| sq z159 (oNl rfl rfl rfl) <| sq z159 (oFA (r' := .mp 0 0 8) rfl fF250_4 rfl rfl) <| sq z159 (oLd (cs := [.im 0 _]) rfl tF2 rfl rfl) <| sq z159 (oBi rfl rfl rfl rfl) <| nl) ?_
                    refine Unw.seq ?_
                    by_cases hc39 : s_o0_8_l5 = 0
                    · rw [if_pos hc39] at h
                      refine Go.condT rfl (iEq.2 hc39) ?_
                      refine Go.seq ?_
                      refine Go.r0 c159 rfl rfl (sq z159 (oAsI rfl rfl) <| nl) ?_
                      refine Unw.seq ?_
                      refine Go.ret (Unw.ret ?_)
                      cases h
                      exact ⟨rfl, (fin_of rfl rF159 rfl (by kernel_rfl))⟩
                    · rw [if_neg hc39] at h
                      refine Go.condF rfl (byF iEq hc39) ?_
                      refine Go.skip ?_
                      refine Unw.seq ?_
                      refine Go.seq ?_
                      refine Go.r0 c159 rfl rfl (sq z159 (oMv rfl rfl) <| sq z159 (oNl rfl rfl rfl) <| sq z159 (oFA (r' := .mp 0 0 8) rfl fF250_4 rfl rfl) <| sq z159 (oLd (cs := [.im 0 _]) rfl tF2 rfl rfl) <| sq z159 (oBi rfl rfl rfl rfl) <| sq z159 (oNl rfl rfl rfl) <| sq z159 (oFA (r' := .mp 0 0 8) rfl fF250_4 rfl rfl) <| sq z159 (oSt tF2 rfl rfl rfl (tkI tk0) rfl rfl rfl) <| nl) ?_
                      refine Unw.seq ?_
                      refine Go.seq ?_
                      obtain ⟨x109, hx109, h⟩ := bs h
                      obtain ⟨x112, hx112, h⟩ := bs h
                      obtain ⟨x114, hx114, h⟩ := bs h
                      refine Go.r1 c159 rfl rfl (st1 := mk [(0, .v false [.mp 0 0 0]), (1, .v false [.own 1 0 0]), (2, .v false [.im (tagOf 2 (eO e_S_row before_2)) (eO e_S_row before_2)]), (3, iv sum_3), (9, iv first_9_l5), (10, .v false [.mp 10 0 0]), (12, iv own_12_r12)] [(0, some ⟨0, 0, true, true, false, true, [⟨.imm, 0, 0, .sc (.int .i64 s_o0_0_l5)⟩, ⟨.imm, 0, 0, .sc (.int .i64 s_o0_1_l5)⟩, ⟨.imm, 0, 0, .sc (.int .i64 s_o0_2_l5)⟩, ⟨.imm, 0, 0, .sc (.int .i64 s_o0_3_l5)⟩, ⟨.imm, 0, 0, .sc (.int .i64 s_o0_4_l5)⟩, ⟨.imm, 0, 0, .sc (.int .i64 s_o0_5_l5)⟩, ⟨.imm, 0, 0, .sc (.int .i64 s_o0_6_l5)⟩, ⟨.imm, 0, 0, .sc (.int .i64 s_o0_7_l5)⟩, ⟨.imm, 0, 0, .sc (.int .i64 (w64 (s_o0_8_l5 - 1)))⟩, ⟨.imm, 0, 0, .sc (.bool s_o0_9_l5)⟩, ⟨.sh, 0, 0, .row 1 (List.map eI s_o0_10_l5)⟩, ⟨.imm, 0, 0, .sc (.int .i64 s_o0_11_l5)⟩]⟩), (1, some ⟨0, 0, false, false, false, false, [⟨.sh, 0, 0, .row 1 (List.map eI firsts_1)⟩]⟩), (10, some ⟨0, 0, false, true, false, true, [⟨.sh, 0, 0, .row 1 (List.map eI x60.1.pieces)⟩, ⟨.sh, 0, 0, .row 1 (List.map eI x60.1.joints)⟩, ⟨.imm, 0, 0, .sc (.int .i64 x60.1.last)⟩]⟩)]) (by first | (cases before_2 <;> kernel_rfl) | kernel_rfl) (sq z159 (oMv rfl rfl) <| sq z159 (oMv rfl rfl) <| sq z159 (oCr (xs := [.v false [.own 1 0 0]]) (vs := [(false, [.own 109 0 0])]) (v := .v false [.own 109 0 0]) (c := ⟨.sh, 0, _⟩) (cs := []) (FL_cloneN (en := eI) (L := firsts_1) rfl hx109 (fun _ => rfl)) (.inl rfl) rfl kF187_27 rfl (ppC rfl pp0) rfl rfl pb0 rfl rfl rfl) <| sq z159 (oMv rfl rfl) <| sq z159 (oBS (es := List.map eI ([first_9_l5] : List Int)) rfl sF27 rfl (ptC rfl (fxI fx0) rfl pt0) (flat0 rfl fun _ => rfl)) <| sq z159 (oApO (en := eI) (M := ([first_9_l5] : List Int)) rfl hx112 rfl sF27 rfl rfl uF27 (.inl ⟨_, rfl⟩) rfl rfl rfl rfl (el_own rfl rfl) (flat0 rfl fun _ => rfl)) <| sq z159 (oMv rfl rfl) <| sq z159 (oCa (xs := [.v false [.mp 0 0 0], .v false [.own 112 0 0], .v false [.mp 10 0 0], .v false [.im 0 _]]) (vs := [(false, [.im 0 _])]) (v := .v false [.im 0 _]) (ih hx114) (.inl rfl) rfl kF159_248_27_252_2 rfl (ppPx (ob' := ⟨0, 0, true, true, false, true, [⟨.imm, 0, 0, .sc (.int .i64 s_o0_0_l5)⟩, ⟨.imm, 0, 0, .sc (.int .i64 s_o0_1_l5)⟩, ⟨.imm, 0, 0, .sc (.int .i64 s_o0_2_l5)⟩, ⟨.imm, 0, 0, .sc (.int .i64 s_o0_3_l5)⟩, ⟨.imm, 0, 0, .sc (.int .i64 s_o0_4_l5)⟩, ⟨.imm, 0, 0, .sc (.int .i64 s_o0_5_l5)⟩, ⟨.imm, 0, 0, .sc (.int .i64 s_o0_6_l5)⟩, ⟨.imm, 0, 0, .sc (.int .i64 s_o0_7_l5)⟩, ⟨.imm, 0, 0, .sc (.int .i64 (w64 (s_o0_8_l5 - 1)))⟩, ⟨.imm, 0, 0, .sc (.bool s_o0_9_l5)⟩, ⟨.sh, 0, 0, .row 1 (List.map eI s_o0_10_l5)⟩, ⟨.imm, 0, 0, .sc (.int .i64 s_o0_11_l5)⟩]⟩) rfl rfl rfl (by kernel_rfl) (ppM (take_own rfl rfl) (ppC rfl (ppC rfl pp0)))) rfl rfl (pbPx (ob' := ⟨0, 1, true, true, false, true, [⟨.imm, 1, 0, .sc (.int .i64 x114.2.room.Width)⟩, ⟨.imm, 1, 0, .sc (.int .i64 x114.2.room.Length)⟩, ⟨.imm, 1, 0, .sc (.int .i64 x114.2.stock.Board)⟩, ⟨.imm, 1, 0, .sc (.int .i64 x114.2.stock.Wide)⟩, ⟨.imm, 1, 0, .sc (.int .i64 x114.2.stock.Least)⟩, ⟨.imm, 1, 0, .sc (.int .i64 x114.2.stock.Stagger)⟩, ⟨.imm, 1, 0, .sc (.int .i64 x114.2.step)⟩, ⟨.imm, 1, 0, .sc (.int .i64 x114.2.rows)⟩, ⟨.imm, 1, 0, .sc (.int .i64 x114.2.left)⟩, ⟨.imm, 1, 0, .sc (.bool x114.2.found)⟩, ⟨.sh, 1, 0, .row 1 (List.map eI x114.2.best)⟩, ⟨.imm, 1, 0, .sc (.int .i64 x114.2.least)⟩]⟩) rfl rfl (by kernel_rfl) pb0) rfl rfl rfl) <| nl) ?_
                      refine Unw.seq ?_
                      by_cases hc40 : x114.1 = true
                      · rw [if_pos hc40] at h
                        refine Go.condT rfl (Iff.rfl.2 hc40) ?_
                        refine Go.seq ?_
                        refine Go.r1 c159 rfl rfl (st1 := mk [] [(0, some ⟨0, 0, true, true, false, true, [⟨.imm, 0, 0, .sc (.int .i64 x114.2.room.Width)⟩, ⟨.imm, 0, 0, .sc (.int .i64 x114.2.room.Length)⟩, ⟨.imm, 0, 0, .sc (.int .i64 x114.2.stock.Board)⟩, ⟨.imm, 0, 0, .sc (.int .i64 x114.2.stock.Wide)⟩, ⟨.imm, 0, 0, .sc (.int .i64 x114.2.stock.Least)⟩, ⟨.imm, 0, 0, .sc (.int .i64 x114.2.stock.Stagger)⟩, ⟨.imm, 0, 0, .sc (.int .i64 x114.2.step)⟩, ⟨.imm, 0, 0, .sc (.int .i64 x114.2.rows)⟩, ⟨.imm, 0, 0, .sc (.int .i64 x114.2.left)⟩, ⟨.imm, 0, 0, .sc (.bool x114.2.found)⟩, ⟨.sh, 0, 0, .row 1 (List.map eI x114.2.best)⟩, ⟨.imm, 0, 0, .sc (.int .i64 x114.2.least)⟩]⟩)]) (by first | (cases before_2 <;> kernel_rfl) | kernel_rfl) (sq z159 (oAsI rfl rfl) <| nl) ?_
                        refine Unw.seq ?_
                        refine Go.ret (Unw.ret ?_)
                        cases h
                        exact ⟨rfl, (fin_of rfl rF159 rfl (by kernel_rfl))⟩
                      · rw [if_neg hc40] at h
                        refine Go.condF rfl (byF Iff.rfl hc40) ?_
                        refine Go.skip ?_
                        refine Unw.blk ?_
                        exact K32 _ ⟨x114.2.room.Width, x114.2.room.Length, x114.2.stock.Board, x114.2.stock.Wide, x114.2.stock.Least, x114.2.stock.Stagger, x114.2.step, x114.2.rows, x114.2.left, x114.2.found, x114.2.best, x114.2.least, h, (by first | (cases before_2 <;> kernel_rfl) | kernel_rfl)⟩
              · intro K41
                by_cases hc42 : t_71_m10 = true
                · rw [if_pos hc42] at h
                  refine Go.condT rfl (Iff.rfl.2 hc42) ?_
                  cases before_2 with
                  | none =>
                    cases h
                  | some ohc43 =>
                    obtain ⟨x81, hx81, h⟩ := bs h
                    refine Go.dr c159 rfl rfl rfl rfl (mk [(0, .v false [.mp 0 0 0]), (1, .v false [.own 1 0 0]), (2, .v false [.im (tagOf 2 (eO e_S_row (some ohc43))) (eO e_S_row (some ohc43))]), (3, iv sum_3), (9, iv first_9_l5), (10, .v false [.mp 10 0 0]), (12, iv (w64 (sum_3 + x81)))] [(0, some ⟨0, 0, true, true, false, true, [⟨.imm, 0, 0, .sc (.int .i64 s_o0_0_l5)⟩, ⟨.imm, 0, 0, .sc (.int .i64 s_o0_1_l5)⟩, ⟨.imm, 0, 0, .sc (.int .i64 s_o0_2_l5)⟩, ⟨.imm, 0, 0, .sc (.int .i64 s_o0_3_l5)⟩, ⟨.imm, 0, 0, .sc (.int .i64 s_o0_4_l5)⟩, ⟨.imm, 0, 0, .sc (.int .i64 s_o0_5_l5)⟩, ⟨.imm, 0, 0, .sc (.int .i64 s_o0_6_l5)⟩, ⟨.imm, 0, 0, .sc (.int .i64 s_o0_7_l5)⟩, ⟨.imm, 0, 0, .sc (.int .i64 s_o0_8_l5)⟩, ⟨.imm, 0, 0, .sc (.bool s_o0_9_l5)⟩, ⟨.sh, 0, 0, .row 1 (List.map eI s_o0_10_l5)⟩, ⟨.imm, 0, 0, .sc (.int .i64 s_o0_11_l5)⟩]⟩), (1, some ⟨0, 0, false, false, false, false, [⟨.sh, 0, 0, .row 1 (List.map eI firsts_1)⟩]⟩), (10, some ⟨0, 0, false, true, false, true, [⟨.sh, 0, 0, .row 1 (List.map eI x60.1.pieces)⟩, ⟨.sh, 0, 0, .row 1 (List.map eI x60.1.joints)⟩, ⟨.imm, 0, 0, .sc (.int .i64 x60.1.last)⟩]⟩)]) ?_ ?_
                    · exact sT rfl (dN z159 rfl (oMv rfl rfl)) <| sT rfl (dN z159 rfl (oMv rfl rfl)) <| sT rfl (dN z159 rfl (oNl rfl rfl rfl)) <| sT rfl (dN z159 rfl (oLd (cs := [.im _ _, .im _ _, .im _ _]) rfl tF255 rfl rfl)) <| sT rfl (dN z159 rfl (oLd (cs := [.own 10 0 0, .own 10 0 1, .im 0 _]) rfl tF255 rfl rfl)) <| sT rfl (dN z159 rfl (oMv rfl rfl)) <| sT rfl (dN z159 rfl (oNl rfl rfl rfl)) <| sT rfl (dN z159 rfl (oFA (r' := .mp 0 0 2) rfl fF250_1 rfl rfl)) <| sT rfl (dN z159 rfl (oLd (cs := [.im 0 _, .im 0 _, .im 0 _, .im 0 _]) rfl tF101 rfl rfl)) <| sS (dN z159 rfl (oCa (xs := [.v true [.im _ _, .im _ _, .im _ _], .v true [.own 10 0 0, .own 10 0 1, .im 0 _], .v true [.im 0 _, .im 0 _, .im 0 _, .im 0 _]]) (vs := [(false, [.im 0 _])]) (v := .v false [.im 0 _]) (L_impl_boards hx81) (.inl rfl) rfl kF164_255_255_101 rfl (ppC rfl (ppC rfl (ppC rfl pp0))) rfl rfl pb0 rfl rfl rfl)) trivial (sT rfl (dN z159 rfl (oBi rfl rfl rfl rfl)) <| sS (dN z159 rfl (oAsI rfl rfl)) trivial (sD (by first | (cases (some ohc43) <;> kernel_rfl) | kernel_rfl)))
                    · exact K41 _ ⟨(w64 (sum_3 + x81)), h, (by first | (cases (some ohc43) <;> kernel_rfl) | kernel_rfl)⟩
                · rw [if_neg hc42] at h
                  refine Go.condF rfl (byF Iff.rfl hc42) ?_
                  refine Go.skip ?_
                  exact K41 _ ⟨(w64 (sum_3 + (x60.1.pieces.length : Int))), h, (by first | (cases before_2 <;> kernel_rfl) | kernel_rfl)⟩
          · rw [if_neg hc33] at h
            refine Go.condT rfl (nT (byF Iff.rfl hc33)) ?_
            refine Go.exit ?_
            refine Unw.seqx ?_
            refine Unw.blkx ?_
            exact K32 _ ⟨s_o0_0_l5, s_o0_1_l5, s_o0_2_l5, s_o0_3_l5, s_o0_4_l5, s_o0_5_l5, s_o0_6_l5, s_o0_7_l5, s_o0_8_l5, s_o0_9_l5, s_o0_10_l5, s_o0_11_l5, h, (by first | (cases before_2 <;> kernel_rfl) | kernel_rfl)⟩
      · rw [if_neg hc22] at h
        refine Go.condF rfl (byF iDec hc22) ?_
        refine Go.exit ?_
        refine Unw.seqx ?_
        refine Unw.nil ?_
        cases h
        exact ⟨rfl, (by first | (cases before_2 <;> kernel_rfl) | kernel_rfl)⟩
    · rintro ⟨e, st⟩ hp
      rcases o with ⟨s_o0_0_e0_5, s_o0_1_e0_5, s_o0_2_e0_5, s_o0_3_e0_5, s_o0_4_e0_5, s_o0_5_e0_5, s_o0_6_e0_5, s_o0_7_e0_5, s_o0_8_e0_5, s_o0_9_e0_5, s_o0_10_e0_5, s_o0_11_e0_5⟩ | r2
      · dsimp only at h
        obtain ⟨he, hst⟩ := hp
        obtain rfl : e = .exit 0 := he
        refine Unw.blkx ?_
        refine Unw.seq ?_
        refine Go.seq ?_
        refine Go.r1 c159 rfl rfl hst (sq z159 (oAsI rfl rfl) <| nl) ?_
        refine Unw.seq ?_
        refine Go.ret (Unw.ret ?_)
        cases h
        exact Fin_ret (fin_of rfl rF159 rfl (by kernel_rfl))
      · dsimp only at h
        obtain ⟨he, hfin⟩ := hp
        obtain rfl : e = .ret := he
        cases h
        exact Unw.ret (Fin_ret hfin)
theorem L_impl_floorSearch_run {s_0 : S_floorSearch} {firsts_1 : (List Int)} {before_2 : (Option S_row)} {sum_3 : Int} {r : (Bool × S_floorSearch)} (h : impl_floorSearch_run s_0 firsts_1 before_2 sum_3 = some r) : FL Try.prog cfg 159 [.ptr true [(.imm, .sc (.int .i64 s_0.room.Width)), (.imm, .sc (.int .i64 s_0.room.Length)), (.imm, .sc (.int .i64 s_0.stock.Board)), (.imm, .sc (.int .i64 s_0.stock.Wide)), (.imm, .sc (.int .i64 s_0.stock.Least)), (.imm, .sc (.int .i64 s_0.stock.Stagger)), (.imm, .sc (.int .i64 s_0.step)), (.imm, .sc (.int .i64 s_0.rows)), (.imm, .sc (.int .i64 s_0.left)), (.imm, .sc (.bool s_0.found)), (.sh, .row 1 (List.map eI s_0.best)), (.imm, .sc (.int .i64 s_0.least))], .mv 1 (List.map eI firsts_1), .im 2 false [eO e_S_row before_2], .im 2 false [.sc (.int .i64 sum_3)]] = some ([(false, [.im 0 (.sc (.bool r.1))])], [.ptr true [(.imm, .sc (.int .i64 r.2.room.Width)), (.imm, .sc (.int .i64 r.2.room.Length)), (.imm, .sc (.int .i64 r.2.stock.Board)), (.imm, .sc (.int .i64 r.2.stock.Wide)), (.imm, .sc (.int .i64 r.2.stock.Least)), (.imm, .sc (.int .i64 r.2.stock.Stagger)), (.imm, .sc (.int .i64 r.2.step)), (.imm, .sc (.int .i64 r.2.rows)), (.imm, .sc (.int .i64 r.2.left)), (.imm, .sc (.bool r.2.found)), (.sh, .row 1 (List.map eI r.2.best)), (.imm, .sc (.int .i64 r.2.least))]]) := by
  unfold impl_floorSearch_run at h
  obtain ⟨n, hn⟩ := fixO_iter h
  clear h
  induction n generalizing s_0 firsts_1 before_2 sum_3 r with
  | zero => cases hn
  | succ n ihn => exact L_impl_floorSearch_run_F (self := iterO _ n) (fun h => ihn h) hn
theorem L_impl_BestFloor {r_0 : S_Room} {k_1 : S_Stock} {step_2 : Int} {budget_3 : Int} {r : ((List Int) × Int × Int)} (h : impl_BestFloor r_0 k_1 step_2 budget_3 = some r) : FL Try.prog cfg 69 [.im 2 true [.sc (.int .i64 r_0.Width), .sc (.int .i64 r_0.Length)], .im 2 true [.sc (.int .i64 k_1.Board), .sc (.int .i64 k_1.Wide), .sc (.int .i64 k_1.Least), .sc (.int .i64 k_1.Stagger)], .im 2 false [.sc (.int .i64 step_2)], .im 2 false [.sc (.int .i64 budget_3)]] = some ([(false, [.ow 0 1 (List.map eI r.1)]), (false, [.im 0 (.sc (.int .i64 r.2.1))]), (false, [.im 0 (.sc (.int .i64 r.2.2))])], []) := by
  unfold impl_BestFloor at h
  refine FL_goS (A := [(0, .v true [.im 2 (.sc (.int .i64 r_0.Width)), .im 2 (.sc (.int .i64 r_0.Length))]), (1, .v true [.im 2 (.sc (.int .i64 k_1.Board)), .im 2 (.sc (.int .i64 k_1.Wide)), .im 2 (.sc (.int .i64 k_1.Least)), .im 2 (.sc (.int .i64 k_1.Stagger))]), (2, .v false [.im 2 (.sc (.int .i64 step_2))]), (3, .v false [.im 2 (.sc (.int .i64 budget_3))])]) (B := [(0, none), (1, none), (2, none), (3, none)]) (nt := 61) rfl rfl Try.func69 rfl rfl rfl rfl ?_
  refine Go.seq ?_
  refine Go.r0 c69 rfl rfl (sq z69 (oBx rfl tF99 rfl (tkI (tkI tk0))) <| sq z69 (oBx rfl tF101 rfl (tkI (tkI (tkI (tkI tk0))))) <| sq z69 (oAsN rfl rfl eF27) <| sq z69 (oAsI rfl rfl) <| sq z69 (oAsI rfl rfl) <| nl) ?_
  refine Unw.seq ?_
  refine Go.seq ?_
  obtain ⟨x17, hx17, h⟩ := bs h
  refine Go.r0 c69 rfl rfl (sq z69 (oLd (cs := [.im 0 _, .im 0 _]) rfl tF99 rfl rfl) <| sq z69 (oLd (cs := [.im 0 _, .im 0 _, .im 0 _, .im 0 _]) rfl tF101 rfl rfl) <| sq z69 (oCa (xs := [.v true [.im 0 _, .im 0 _], .v true [.im 0 _, .im 0 _, .im 0 _, .im 0 _]]) (vs := [(false, [.im 0 _]), (false, [.im 0 _])]) (v := .tup [(false, [.im 0 _]), (false, [.im 0 _])]) (L_impl_RowCount hx17) (.inl rfl) rfl kF158_99_101 rfl (ppC rfl (ppC rfl pp0)) rfl rfl pb0 rfl rfl rfl) <| sq z69 (oMvT rfl rfl) <| sq z69 (oEx rfl rfl rfl) <| sq z69 (oEx rfl rfl rfl) <| sq z69 (oAsI rfl rfl) <| sq z69 (oAsI rfl rfl) <| nl) ?_
  refine Unw.seq ?_
  refine Go.seq ?_
  refine Go.seq ?_
  obtain ⟨t_33_m2, hm9, h⟩ := bs h
  refine Go.rX c69 rfl rfl rfl (mk [(2, iv step_2), (3, iv budget_3), (4, .v false [.mp 4 0 0]), (5, .v false [.mp 5 0 0]), (11, iv x17.1), (12, iv x17.2), (33, bv t_33_m2)] [(4, some ⟨0, 0, false, true, false, true, [⟨.imm, 0, 0, .sc (.int .i64 r_0.Width)⟩, ⟨.imm, 0, 0, .sc (.int .i64 r_0.Length)⟩]⟩), (5, some ⟨0, 0, false, true, false, true, [⟨.imm, 0, 0, .sc (.int .i64 k_1.Board)⟩, ⟨.imm, 0, 0, .sc (.int .i64 k_1.Wide)⟩, ⟨.imm, 0, 0, .sc (.int .i64 k_1.Least)⟩, ⟨.imm, 0, 0, .sc (.int .i64 k_1.Stagger)⟩]⟩)]) ?_ ?_
  · by_cases hc1 : x17.2 = 0
    · rw [if_pos hc1] at hm9
      obtain ⟨x26, hx26, hm9⟩ := bs hm9
      by_cases hc2 : x26 = true
      · rw [if_pos hc2] at hm9
        obtain ⟨x30, hx30, hm9⟩ := bs hm9
        cases hm9
        exact ⟨_, sq z69 (oMv rfl rfl) <| sq z69 (oBi rfl rfl rfl rfl) <| sq z69 (oMv rfl rfl) <| sgT z69 rfl rfl (iEq.2 hc1) (oMv rfl rfl) <| sgT z69 rfl rfl (iEq.2 hc1) (oFA (r' := .mp 5 0 0) rfl fF101_0 rfl rfl) <| sgT z69 rfl rfl (iEq.2 hc1) (oLd (cs := [.im 0 _]) rfl tF2 rfl rfl) <| sgT z69 rfl rfl (iEq.2 hc1) (oCa (xs := [.v false [.im 2 _], .v false [.im 0 _], .v false [.im 0 _]]) (vs := [(false, [.im 0 _])]) (v := .v false [.im 0 _]) (L_impl_within hx26) (.inl rfl) rfl kF92_2_2_2 rfl (ppC rfl (ppC rfl (ppC rfl pp0))) rfl rfl pb0 rfl rfl rfl) <| sgT z69 rfl rfl (iEq.2 hc1) (oUn rfl rfl rfl) <| sgT z69 rfl rfl (iEq.2 hc1) (oMv rfl rfl) <| sgT z69 rfl rfl (nF (Iff.rfl.2 hc2)) (oMv rfl rfl) <| sgT z69 rfl rfl (nF (Iff.rfl.2 hc2)) (oCa (xs := [.v false [.im 2 _], .v false [.im 0 _], .v false [.im 0 _]]) (vs := [(false, [.im 0 _])]) (v := .v false [.im 0 _]) (L_impl_within hx30) (.inl rfl) rfl kF92_2_2_2 rfl (ppC rfl (ppC rfl (ppC rfl pp0))) rfl rfl pb0 rfl rfl rfl) <| sgT z69 rfl rfl (nF (Iff.rfl.2 hc2)) (oUn rfl rfl rfl) <| sgT z69 rfl rfl (iEq.2 hc1) (oPkF rfl rfl (nF (Iff.rfl.2 hc2)) rfl) <| sq z69 (oPkT rfl rfl (iEq.2 hc1) rfl) <| nl, (by kernel_rfl)⟩
      · rw [if_neg hc2] at hm9
        cases hm9
        exact ⟨_, sq z69 (oMv rfl rfl) <| sq z69 (oBi rfl rfl rfl rfl) <| sq z69 (oMv rfl rfl) <| sgT z69 rfl rfl (iEq.2 hc1) (oMv rfl rfl) <| sgT z69 rfl rfl (iEq.2 hc1) (oFA (r' := .mp 5 0 0) rfl fF101_0 rfl rfl) <| sgT z69 rfl rfl (iEq.2 hc1) (oLd (cs := [.im 0 _]) rfl tF2 rfl rfl) <| sgT z69 rfl rfl (iEq.2 hc1) (oCa (xs := [.v false [.im 2 _], .v false [.im 0 _], .v false [.im 0 _]]) (vs := [(false, [.im 0 _])]) (v := .v false [.im 0 _]) (L_impl_within hx26) (.inl rfl) rfl kF92_2_2_2 rfl (ppC rfl (ppC rfl (ppC rfl pp0))) rfl rfl pb0 rfl rfl rfl) <| sgT z69 rfl rfl (iEq.2 hc1) (oUn rfl rfl rfl) <| sgT z69 rfl rfl (iEq.2 hc1) (oMv rfl rfl) <| sgF rfl rfl (nT (byF Iff.rfl hc2)) rfl <| sgF rfl rfl (nT (byF Iff.rfl hc2)) rfl <| sgF rfl rfl (nT (byF Iff.rfl hc2)) rfl <| sgT z69 rfl rfl (iEq.2 hc1) (oPkT rfl rfl (nT (byF Iff.rfl hc2)) rfl) <| sq z69 (oPkT rfl rfl (iEq.2 hc1) rfl) <| nl, (by kernel_rfl)⟩
    · rw [if_neg hc1] at hm9
      cases hm9
      exact ⟨_, sq z69 (oMv rfl rfl) <| sq z69 (oBi rfl rfl rfl rfl) <| sq z69 (oMv rfl rfl) <| sgF rfl rfl (byF iEq hc1) rfl <| sgF rfl rfl (byF iEq hc1) rfl <| sgF rfl rfl (byF iEq hc1) rfl <| sgF rfl rfl (byF iEq hc1) rfl <| sgF rfl rfl (byF iEq hc1) rfl <| sgF rfl rfl (byF iEq hc1) rfl <| sgU rfl rfl rfl <| sgU rfl rfl rfl <| sgU rfl rfl rfl <| sgF rfl rfl (byF iEq hc1) rfl <| sq z69 (oPkF rfl rfl (byF iEq hc1) rfl) <| nl, (by kernel_rfl)⟩
  · refine Unw.seq ?_
    refine Go.join (fun st => ∃ code_12_r4, impl_BestFloor_k4 budget_3 k_1 r_0 step_2 x17 code_12_r4 = some r ∧ st.norm ([2, 3, 4, 5, 11, 12], [4, 5]) = mk [(2, iv step_2), (3, iv budget_3), (4, .v false [.mp 4 0 0]), (5, .v false [.mp 5 0 0]), (11, iv x17.1), (12, iv code_12_r4)] [(4, some ⟨0, 0, false, true, false, true, [⟨.imm, 0, 0, .sc (.int .i64 r_0.Width)⟩, ⟨.imm, 0, 0, .sc (.int .i64 r_0.Length)⟩]⟩), (5, some ⟨0, 0, false, true, false, true, [⟨.imm, 0, 0, .sc (.int .i64 k_1.Board)⟩, ⟨.imm, 0, 0, .sc (.int .i64 k_1.Wide)⟩, ⟨.imm, 0, 0, .sc (.int .i64 k_1.Least)⟩, ⟨.imm, 0, 0, .sc (.int .i64 k_1.Stagger)⟩]⟩)]) ?_ ?_
    · rintro st ⟨code_12_r4, h, hst⟩
      unfold impl_BestFloor_k4 at h
      refine Unw.seq ?_
      refine Go.seq ?_
      refine Go.seq ?_
      refine Go.r1 c69 rfl rfl hst (sq z69 (oMv rfl rfl) <| sq z69 (oBi rfl rfl rfl rfl) <| nl) ?_
      refine Unw.seq ?_
      by_cases hc4 : code_12_r4 ≠ 0
      · rw [if_pos hc4] at h
        refine Go.condT rfl (iNe.2 hc4) ?_
        refine Go.seq ?_
        refine Go.r0 c69 rfl rfl (sq z69 (oMv rfl rfl) <| sq z69 (oAsN rfl rfl eF27) <| sq z69 (oAsI rfl rfl) <| sq z69 (oAsI rfl rfl) <| nl) ?_
        refine Unw.seq ?_
        refine Go.ret (Unw.ret ?_)
        cases h
        exact Fin_ret (fin_of rfl rF69 rfl (by kernel_rfl))
      · rw [if_neg hc4] at h
        refine Go.condF rfl (byF iNe hc4) ?_
        refine Go.skip ?_
        refine Unw.seq ?_
        refine Go.seq ?_
        refine Go.r0 c69 rfl rfl (sq z69 (oLd (cs := [.im 0 _, .im 0 _]) rfl tF99 rfl rfl) <| sq z69 (oLd (cs := [.im 0 _, .im 0 _, .im 0 _, .im 0 _]) rfl tF101 rfl rfl) <| sq z69 (oMv rfl rfl) <| sq z69 (oMv rfl rfl) <| sq z69 (oMv rfl rfl) <| sq z69 (oBu (cs := [.im 0 _, .im 0 _, .im 0 _, .im 0 _, .im 0 _, .im 0 _, .im 0 _, .im 0 _, .im 0 _, .im 0 _, .nil, .im 0 _]) rfl bF250 rfl) <| sq z69 (oBx rfl tF250 rfl (tkI (tkI (tkI (tkI (tkI (tkI (tkI (tkI (tkI (tkI (tkN (tkI tk0))))))))))))) <| sq z69 (oAsP rfl rfl) <| nl) ?_
        refine Unw.seq ?_
        refine Go.seq ?_
        refine Go.block ?_
        refine Go.seq ?_
        obtain ⟨x46, hx46, h⟩ := bs h
        refine Go.r1 c69 rfl rfl (st1 := mk [(13, .v false [.mp 43 0 0])] [(43, some ⟨0, 0, false, true, false, true, [⟨.imm, 0, 0, .sc (.int .i64 r_0.Width)⟩, ⟨.imm, 0, 0, .sc (.int .i64 r_0.Length)⟩, ⟨.imm, 0, 0, .sc (.int .i64 k_1.Board)⟩, ⟨.imm, 0, 0, .sc (.int .i64 k_1.Wide)⟩, ⟨.imm, 0, 0, .sc (.int .i64 k_1.Least)⟩, ⟨.imm, 0, 0, .sc (.int .i64 k_1.Stagger)⟩, ⟨.imm, 0, 0, .sc (.int .i64 step_2)⟩, ⟨.imm, 0, 0, .sc (.int .i64 x17.1)⟩, ⟨.imm, 0, 0, .sc (.int .i64 budget_3)⟩, ⟨.imm, 0, 0, .sc (.bool false)⟩, ⟨.sh, 0, 0, .row 1 (List.map eI ([] : List Int))⟩, ⟨.imm, 0, 0, .sc (.int .i64 0)⟩]⟩)]) (by kernel_rfl) (sq z69 (oMv rfl rfl) <| sq z69 (oCa (xs := [.v false [.mp 43 0 0], .v false [.nil], .v false [.im 0 _], .v false [.im 0 _]]) (vs := [(false, [.im 0 _])]) (v := .v false [.im 0 _]) (L_impl_floorSearch_run hx46) (.inl rfl) rfl kF159_248_27_252_2 rfl (ppPx (ob' := ⟨0, 0, false, true, false, true, [⟨.imm, 0, 0, .sc (.int .i64 r_0.Width)⟩, ⟨.imm, 0, 0, .sc (.int .i64 r_0.Length)⟩, ⟨.imm, 0, 0, .sc (.int .i64 k_1.Board)⟩, ⟨.imm, 0, 0, .sc (.int .i64 k_1.Wide)⟩, ⟨.imm, 0, 0, .sc (.int .i64 k_1.Least)⟩, ⟨.imm, 0, 0, .sc (.int .i64 k_1.Stagger)⟩, ⟨.imm, 0, 0, .sc (.int .i64 step_2)⟩, ⟨.imm, 0, 0, .sc (.int .i64 x17.1)⟩, ⟨.imm, 0, 0, .sc (.int .i64 budget_3)⟩, ⟨.imm, 0, 0, .sc (.bool false)⟩, ⟨.sh, 0, 0, .row 1 (List.map eI ([] : List Int))⟩, ⟨.imm, 0, 0, .sc (.int .i64 0)⟩]⟩) rfl rfl rfl (by kernel_rfl) (ppM take_nil (ppC rfl (ppC rfl pp0)))) rfl rfl (pbPx (ob' := ⟨0, 1, false, true, false, true, [⟨.imm, 1, 0, .sc (.int .i64 x46.2.room.Width)⟩, ⟨.imm, 1, 0, .sc (.int .i64 x46.2.room.Length)⟩, ⟨.imm, 1, 0, .sc (.int .i64 x46.2.stock.Board)⟩, ⟨.imm, 1, 0, .sc (.int .i64 x46.2.stock.Wide)⟩, ⟨.imm, 1, 0, .sc (.int .i64 x46.2.stock.Least)⟩, ⟨.imm, 1, 0, .sc (.int .i64 x46.2.stock.Stagger)⟩, ⟨.imm, 1, 0, .sc (.int .i64 x46.2.step)⟩, ⟨.imm, 1, 0, .sc (.int .i64 x46.2.rows)⟩, ⟨.imm, 1, 0, .sc (.int .i64 x46.2.left)⟩, ⟨.imm, 1, 0, .sc (.bool x46.2.found)⟩, ⟨.sh, 1, 0, .row 1 (List.map eI x46.2.best)⟩, ⟨.imm, 1, 0, .sc (.int .i64 x46.2.least)⟩]⟩) rfl rfl (by kernel_rfl) pb0) rfl rfl rfl) <| sq z69 (oAsI rfl rfl) <| nl) ?_
        refine Unw.seq ?_
        by_cases hc5 : x46.1 = true
        · rw [if_pos hc5] at h
          refine Go.condT rfl (Iff.rfl.2 hc5) ?_
          refine Go.seq ?_
          refine Go.r1 c69 rfl rfl (st1 := mk [] []) (by kernel_rfl) (sq z69 (oAsN rfl rfl eF27) <| sq z69 (oAsI rfl rfl) <| sq z69 (oAsI rfl rfl) <| nl) ?_
          refine Unw.seq ?_
          refine Go.ret (Unw.ret ?_)
          cases h
          exact Fin_ret (fin_of rfl rF69 rfl (by kernel_rfl))
        · rw [if_neg hc5] at h
          refine Go.condF rfl (byF Iff.rfl hc5) ?_
          refine Go.seq ?_
          refine Go.r1 c69 rfl rfl (st1 := mk [(13, .v false [.mp 43 0 0])] [(43, some ⟨0, 0, false, true, false, true, [⟨.imm, 0, 0, .sc (.int .i64 x46.2.room.Width)⟩, ⟨.imm, 0, 0, .sc (.int .i64 x46.2.room.Length)⟩, ⟨.imm, 0, 0, .sc (.int .i64 x46.2.stock.Board)⟩, ⟨.imm, 0, 0, .sc (.int .i64 x46.2.stock.Wide)⟩, ⟨.imm, 0, 0, .sc (.int .i64 x46.2.stock.Least)⟩, ⟨.imm, 0, 0, .sc (.int .i64 x46.2.stock.Stagger)⟩, ⟨.imm, 0, 0, .sc (.int .i64 x46.2.step)⟩, ⟨.imm, 0, 0, .sc (.int .i64 x46.2.rows)⟩, ⟨.imm, 0, 0, .sc (.int .i64 x46.2.left)⟩, ⟨.imm, 0, 0, .sc (.bool x46.2.found)⟩, ⟨.sh, 0, 0, .row 1 (List.map eI x46.2.best)⟩, ⟨.imm, 0, 0, .sc (.int .i64 x46.2.least)⟩]⟩)]) (by kernel_rfl) (sq z69 (oMv rfl rfl) <| sq z69 (oNl rfl rfl rfl) <| sq z69 (oFA (r' := .mp 43 0 9) rfl fF250_5 rfl rfl) <| sq z69 (oLd (cs := [.im 0 _]) rfl tF4 rfl rfl) <| sq z69 (oUn rfl rfl rfl) <| sq z69 (oAsI rfl rfl) <| nl) ?_
          refine Unw.seq ?_
          by_cases hc6 : x46.2.found = true
          · rw [if_pos hc6] at h
            refine Go.condF rfl (nF (Iff.rfl.2 hc6)) ?_
            refine Go.skip ?_
            refine Unw.blk ?_
            refine Unw.seq ?_
            refine Go.seq ?_
            refine Go.dr c69 rfl rfl rfl rfl (mk [(8, .v false [.own 8 0 0]), (9, iv x46.2.least), (10, iv 0)] [(8, some ⟨0, 0, false, false, false, false, [⟨.sh, 0, 0, .row 1 (List.map eI x46.2.best)⟩]⟩)]) (sT rfl (dN z69 rfl (oMv rfl rfl)) <| sT rfl (dN z69 rfl (oNl rfl rfl rfl)) <| sT rfl (dN z69 rfl (oFA (r' := .mp 43 0 10) rfl fF250_6 rfl rfl)) <| sT rfl (dN z69 rfl (oLd (cs := [.own 43 0 10]) rfl tF27 rfl rfl)) <| sT rfl (dN z69 rfl (oMv rfl rfl)) <| sF (dN z69 rfl (oNl rfl rfl rfl)) trivial (sF (dN z69 rfl (oFA (r' := .mp 43 0 11) rfl fF250_7 rfl rfl)) trivial (sF (dN z69 rfl (oLd (cs := [.im 0 _]) rfl tF2 rfl rfl)) trivial (sS (dN z69 rfl (oAsO rfl rfl rfl rfl rfl)) trivial (sS (dN z69 rfl (oAsI rfl rfl)) trivial (sS (dN z69 rfl (oAsI rfl rfl)) trivial (sD (by kernel_rfl))))) (sS (dN z69 rfl (oAsO rfl rfl rfl rfl rfl)) trivial (sT rfl (dN z69 rfl (oLd (cs := [.im 0 _]) rfl tF2 rfl rfl)) <| sS (dN z69 rfl (oAsI rfl rfl)) trivial (sS (dN z69 rfl (oAsI rfl rfl)) trivial (sD (by kernel_rfl)))))) (sS (dN z69 rfl (oAsO rfl rfl rfl rfl rfl)) trivial (sT rfl (dN z69 rfl (oFA (r' := .mp 43 0 11) rfl fF250_7 rfl rfl)) <| sT rfl (dN z69 rfl (oLd (cs := [.im 0 _]) rfl tF2 rfl rfl)) <| sS (dN z69 rfl (oAsI rfl rfl)) trivial (sS (dN z69 rfl (oAsI rfl rfl)) trivial (sD (by kernel_rfl)))))) (sS (dN z69 rfl (oAsO rfl rfl rfl rfl rfl)) trivial (sT rfl (dN z69 rfl (oNl rfl rfl rfl)) <| sT rfl (dN z69 rfl (oFA (r' := .mp 43 0 11) rfl fF250_7 rfl rfl)) <| sT rfl (dN z69 rfl (oLd (cs := [.im 0 _]) rfl tF2 rfl rfl)) <| sS (dN z69 rfl (oAsI rfl rfl)) trivial (sS (dN z69 rfl (oAsI rfl rfl)) trivial (sD (by kernel_rfl)))))) ?_
            refine Unw.seq ?_
            refine Go.ret (Unw.ret ?_)
            cases h
            exact Fin_ret (fin_of rfl rF69 rfl (by kernel_rfl))
          · rw [if_neg hc6] at h
            refine Go.condT rfl (nT (byF Iff.rfl hc6)) ?_
            refine Go.seq ?_
            refine Go.r0 c69 rfl rfl (sq z69 (oAsN rfl rfl eF27) <| sq z69 (oAsI rfl rfl) <| sq z69 (oAsI rfl rfl) <| nl) ?_
            refine Unw.seq ?_
            refine Go.ret (Unw.ret ?_)
            cases h
            exact Fin_ret (fin_of rfl rF69 rfl (by kernel_rfl))
    · intro K7
      by_cases hc8 : t_33_m2 = true
      · rw [if_pos hc8] at h
        refine Go.condT rfl (Iff.rfl.2 hc8) ?_
        refine Go.r0 c69 rfl rfl (sq z69 (oAsI rfl rfl) <| nl) ?_
        exact K7 _ ⟨2, h, (by kernel_rfl)⟩
      · rw [if_neg hc8] at h
        refine Go.condF rfl (byF Iff.rfl hc8) ?_
        refine Go.skip ?_
        exact K7 _ ⟨x17.2, h, (by kernel_rfl)⟩
end
end Go.Proofs.Ytigjhjlkdamncaa
