/- The machine answers, at each function of the program that is reached, what its plain function answers. Conditions: none. -/
import Derived.Test.YtigjhjlkdamncaaProg
import Derived.KernelRfl
import Derived.Test.YtigjhjlkdamncaaSimRm
import Derived.Test.YtigjhjlkdamncaaTgoT
namespace Go.Proofs.Ytigjhjlkdamncaa
open Go Go.Sim Go.Pw Go.Proofs
set_option linter.unusedVariables false
set_option linter.unusedSimpArgs false
set_option maxRecDepth 100000
set_option maxHeartbeats 4000000
noncomputable section

def e_S_Bond (x : S_Bond) : AV := .agg [.sc (.string x.Name), .sc (.int .i64 x.Spread), .sc (.int .i64 x.Open), .sc (.int .i64 x.Press)]
def e_S_l00Src (x : S_l00Src) : AV := .agg [.row 1 (List.map (eK .u8) x.code), .sc (.int .i64 x.at_), .sc (.int .u64 x.seed)]
def e_S_glueSearch (x : S_glueSearch) : AV := .agg [.row 4 (List.map e_S_Bond x.list), .sc (.int .i64 x.presses), .sc (.int .i64 x.left), .sc (.bool x.found), .row 1 (List.map eI x.best), .sc (.int .i64 x.least)]
def e_Ar4_Int (x : Ar4_Int) : AV := .agg [.sc (.int .i64 x.e0), .sc (.int .i64 x.e1), .sc (.int .i64 x.e2), .sc (.int .i64 x.e3)]
def e_S_gluing (x : S_gluing) : AV := .agg [.sc (.int .i64 x.ready), .sc (.int .i64 x.free.e0), .sc (.int .i64 x.free.e1), .sc (.int .i64 x.free.e2), .sc (.int .i64 x.free.e3), .sc (.int .i64 x.end_)]
def e_S_glued (x : S_glued) : AV := .agg [.sc (.int .i64 x.start), .sc (.int .i64 x.press), .sc (.int .i64 x.begin), .sc (.int .i64 x.end_)]

def fc13 : FCfg := { par := [.cst false, .cst false], inn := [], out := [(1, some ([0, 1, 34], [])), (7, some ([4], [])), (11, some ([1, 118], [])), (18, some ([20, 21, 22, 23, 149], [20, 21])), (23, some ([4], []))], loopK := [], frz := [], sch := [] }
def fc14 : FCfg := { par := [.cst false], inn := [], out := [], loopK := [], frz := [], sch := [] }
def fc56 : FCfg := { par := [.cst false, .cst false, .cst false], inn := [(4, some ([0, 1, 2, 9], [])), (7, some ([10], [28])), (8, some ([], [])), (9, some ([10], [28]))], out := [(2, some ([0, 1, 2, 9, 20], [])), (9, some ([6, 7, 8], [6]))], loopK := [], frz := [], sch := [(9, .first 0 [1, 2, 3, 8, 9, 10] [4, 5, 6, 7] (.first 1 [2, 3, 8, 9, 10] [4, 5, 6, 7] (.first 2 [3, 8, 9, 10] [4, 5, 6, 7] (.first 3 [8, 9, 10] [4, 5, 6, 7] (.first 4 [5, 6, 7, 9, 10] [8] (.fork 5 (.fork 6 (.fork 7 (.fork 8 (.fork 9 (.fork 10 (.done) (.stop)) (.stop)) (.stop)) (.fork 8 (.first 7 [9, 10] [] (.fork 9 (.fork 10 (.done) (.stop)) (.stop))) (.stop))) (.fork 8 (.first 6 [7, 9, 10] [] (.first 7 [9, 10] [] (.fork 9 (.fork 10 (.done) (.stop)) (.stop)))) (.stop))) (.fork 8 (.first 5 [6, 7, 9, 10] [] (.first 6 [7, 9, 10] [] (.first 7 [9, 10] [] (.fork 9 (.fork 10 (.done) (.stop)) (.stop))))) (.stop))))))))] }
def fc79 : FCfg := { par := [.cst false], inn := [(3, some ([5, 6], [6, 9])), (4, some ([5, 6, 7], [6, 9]))], out := [], loopK := [], frz := [], sch := [] }
def fc80 : FCfg := { par := [.cst false, .cst false], inn := [(10, some ([1, 2, 8], [2, 8])), (11, some ([1, 2, 8], [2, 8]))], out := [], loopK := [(6, ([1, 2, 8, 20, 21], [2, 8]))], frz := [], sch := [] }
def fc81 : FCfg := { par := [.cst false, .cst false, .cst false], inn := [], out := [], loopK := [], frz := [], sch := [] }
def fc82 : FCfg := { par := [.cst false, .cst false, .cst false], inn := [(9, some ([0, 11, 12, 13, 28, 29, 30], [9, 13])), (11, some ([11], []))], out := [(9, some ([0, 11, 28, 29, 30], [9]))], loopK := [(7, ([0, 11, 28, 29, 30], [9]))], frz := [], sch := [(9, .first 0 [12, 13] [1, 2, 3, 4, 5, 6, 7, 8, 9, 10, 11] (.first 1 [2, 5, 11, 12, 13] [3, 4, 6, 7, 8, 9, 10] (.first 2 [5, 11, 12, 13] [3, 4, 6, 7, 8, 9, 10] (.first 3 [4, 5, 11, 12, 13] [6, 7, 8, 9, 10] (.first 4 [5, 11, 12, 13] [6, 7, 8, 9, 10] (.first 5 [11, 12, 13] [6, 7, 8, 9, 10] (.first 6 [8, 9, 10, 11, 12, 13] [7] (.first 7 [8, 9, 10, 11, 12, 13] [] (.first 8 [9, 10, 11, 12, 13] [] (.first 9 [10, 11, 12, 13] [] (.first 10 [11, 12, 13] [] (.first 11 [12, 13] [] (.first 12 [13] [] (.fork 13 (.done) (.stop)))))))))))))))] }
def fc83 : FCfg := { par := [.cst false], inn := [(3, some ([5, 6, 7], [6, 7, 10]))], out := [], loopK := [], frz := [], sch := [] }
def fc84 : FCfg := { par := [.cst false, .cst false, .cst false], inn := [(4, some ([0, 1, 2, 8], [])), (12, some ([], []))], out := [(2, some ([0, 1, 2, 8, 20], []))], loopK := [(7, ([0, 1, 2, 9], []))], frz := [], sch := [] }
def fc85 : FCfg := { par := [.cst false], inn := [], out := [], loopK := [], frz := [], sch := [] }
def fc87 : FCfg := { par := [.ptr [.imm, .imm, .imm]], inn := [(2, some ([0], [0])), (3, some ([0], [0]))], out := [], loopK := [], frz := [], sch := [] }
def fc92 : FCfg := { par := [.cst false, .cst false, .cst false], inn := [], out := [(1, some ([6], []))], loopK := [], frz := [], sch := [] }
def fc99 : FCfg := { par := [.ptr [.imm, .imm, .imm], .cst false], inn := [], out := [], loopK := [], frz := [], sch := [] }
def fc137 : FCfg := { par := [.cst false, .cst false], inn := [], out := [], loopK := [], frz := [], sch := [] }
def fc138 : FCfg := { par := [.ptr [.imm, .imm, .imm, .imm, .sh, .imm], .mv, .cst false], inn := [(1, some ([0, 1, 5], [0, 1, 5])), (9, some ([0, 1, 5, 7, 8, 33, 34], [0, 1, 5, 8])), (14, some ([0, 1, 5, 7, 8, 33, 34], [0, 1, 5, 8])), (16, some ([0, 1, 5, 33, 34], [0, 1, 5])), (17, some ([], [0]))], out := [(2, some ([], [0])), (9, some ([0, 1, 5, 7, 8, 33, 34], [0, 1, 5, 8])), (10, some ([0, 1, 5, 7, 8, 33, 34, 65], [0, 1, 5, 8])), (14, some ([0, 1, 5, 33, 34, 85], [0, 1, 5]))], loopK := [(5, ([0, 1, 5, 33, 34], [0, 1, 5]))], frz := [], sch := [(2, .first 0 [6, 7, 8, 9, 10, 11, 12, 13, 14] [1, 2, 3, 4, 5] (.first 1 [9, 10, 11, 12, 13, 14] [2, 3, 4, 5, 6, 7, 8] (.first 2 [12, 13, 14] [3, 4, 5, 6, 7, 8, 9, 10, 11] (.first 3 [9, 10, 11, 12, 13, 14] [4, 5, 6, 7, 8] (.first 6 [7, 8, 9, 10, 11, 12, 13, 14] [4, 5] (.first 7 [8, 9, 10, 11, 12, 13, 14] [4, 5] (.fork 4 (.fork 5 (.fork 8 (.first 9 [10, 11, 12, 13, 14] [] (.first 10 [11, 12, 13, 14] [] (.fork 11 (.first 12 [13, 14] [] (.first 13 [14] [] (.fork 14 (.done) (.stop)))) (.stop)))) (.stop)) (.fork 8 (.first 9 [10, 11, 12, 13, 14] [5] (.first 10 [11, 12, 13, 14] [5] (.fork 5 (.fork 11 (.first 12 [13, 14] [] (.first 13 [14] [] (.fork 14 (.done) (.stop)))) (.stop)) (.fork 11 (.first 5 [12, 13, 14] [] (.first 12 [13, 14] [] (.first 13 [14] [] (.fork 14 (.done) (.stop))))) (.stop))))) (.stop))) (.fork 8 (.first 9 [10, 11, 12, 13, 14] [4, 5] (.first 10 [11, 12, 13, 14] [4, 5] (.fork 4 (.fork 5 (.fork 11 (.first 12 [13, 14] [] (.first 13 [14] [] (.fork 14 (.done) (.stop)))) (.stop)) (.fork 11 (.first 5 [12, 13, 14] [] (.first 12 [13, 14] [] (.first 13 [14] [] (.fork 14 (.done) (.stop))))) (.stop))) (.fork 11 (.first 4 [5, 12, 13, 14] [] (.first 5 [12, 13, 14] [] (.first 12 [13, 14] [] (.first 13 [14] [] (.fork 14 (.done) (.stop)))))) (.stop))))) (.stop))))))))), (9, .first 0 [1, 2, 3, 5, 6, 11] [4, 7, 8, 9, 10] (.first 1 [2, 3, 5, 6, 11] [4, 7, 8, 9, 10] (.first 2 [3, 5, 6, 11] [4, 7, 8, 9, 10] (.first 3 [5, 6, 11] [4, 7, 8, 9, 10] (.first 4 [5, 6, 11] [7, 8, 9, 10] (.first 5 [6, 11] [7, 8, 9, 10] (.first 6 [11] [7, 8, 9, 10] (.first 7 [8, 9, 10, 11] [] (.first 8 [9, 10, 11] [] (.first 9 [10, 11] [] (.first 10 [11] [] (.fork 11 (.done) (.stop))))))))))))), (10, .first 0 [1, 2, 3, 4, 5, 6, 7, 8, 9, 10, 11, 12] [] (.first 1 [2, 3, 4, 5, 6, 7, 8, 9, 10, 11, 12] [] (.first 2 [3, 4, 5, 6, 7, 8, 9, 10, 11, 12] [] (.first 3 [4, 5, 6, 7, 8, 9, 10, 11, 12] [] (.first 4 [5, 6, 7, 8, 9, 10, 11, 12] [] (.first 5 [6, 11, 12] [7, 8, 9, 10] (.first 6 [11, 12] [7, 8, 9, 10] (.first 7 [8, 9, 10, 11, 12] [] (.first 8 [9, 10, 11, 12] [] (.first 9 [10, 11, 12] [] (.first 10 [11, 12] [] (.first 11 [12] [] (.first 12 [] [] (.done)))))))))))))), (14, .first 0 [7] [1, 2, 3, 4, 5, 6] (.first 1 [2, 5, 7] [3, 4, 6] (.first 3 [4, 5, 7] [2, 6] (.first 6 [7] [2, 4, 5] (.fork 2 (.fork 4 (.fork 5 (.fork 7 (.done) (.stop)) (.stop)) (.stop)) (.fork 4 (.fork 2 (.fork 5 (.fork 7 (.done) (.stop)) (.stop)) (.stop)) (.stop)))))))] }
def fc152 : FCfg := { par := [.cst false, .cst false], inn := [], out := [], loopK := [], frz := [], sch := [] }
def fc175 : FCfg := { par := [.ptr [.imm, .imm, .imm]], inn := [(5, some ([0, 3, 4, 5], [0, 3, 4])), (7, some ([0, 3, 4, 5], [0, 3, 4])), (8, some ([0, 4], [0, 4])), (9, some ([0, 4, 28], [0, 4])), (13, some ([6], [0])), (18, some ([4], [0, 4]))], out := [], loopK := [(4, ([0, 3, 4, 5], [0, 3, 4])), (15, ([4, 6, 7], [0, 4]))], frz := [], sch := [] }
def fc176 : FCfg := { par := [.ptr [.imm, .imm, .imm]], inn := [(2, some ([0], [0])), (3, some ([0], [0]))], out := [], loopK := [], frz := [], sch := [] }
def fc177 : FCfg := { par := [.row, .cst false], inn := [], out := [], loopK := [], frz := [], sch := [] }
def fc178 : FCfg := { par := [.cst false, .cst false], inn := [], out := [(1, some ([5], []))], loopK := [], frz := [], sch := [(1, .first 0 [2, 3, 4, 10, 11] [1, 5, 6, 7, 8, 9] (.first 1 [2, 3, 4, 10, 11] [5, 6, 7, 8, 9] (.first 2 [3, 4, 10, 11] [5, 6, 7, 8, 9] (.first 3 [4, 10, 11] [5, 6, 7, 8, 9] (.first 4 [10, 11] [5, 6, 7, 8, 9] (.first 5 [7, 8, 9, 10, 11] [6] (.first 6 [7, 8, 9, 10, 11] [] (.first 7 [8, 9, 10, 11] [] (.first 8 [9, 10, 11] [] (.first 9 [10, 11] [] (.first 10 [11] [] (.fork 11 (.done) (.stop)))))))))))))] }
def fc179 : FCfg := { par := [.cst false, .cst false, .cst false], inn := [(6, some ([0, 2, 8, 9, 16, 17, 18], [8, 9])), (7, some ([8, 9], [8, 9]))], out := [(1, some ([0, 1, 2, 8, 9], [8, 9])), (7, some ([6, 7], [6]))], loopK := [(3, ([0, 2, 8, 9, 16, 17, 18], [8, 9]))], frz := [], sch := [(1, .first 1 [2, 3, 6] [0, 4, 5] (.first 2 [3, 6] [0, 4, 5] (.fork 0 (.fork 3 (.fork 4 (.fork 5 (.fork 6 (.done) (.stop)) (.stop)) (.stop)) (.fork 4 (.fork 3 (.fork 5 (.fork 6 (.done) (.stop)) (.stop)) (.fork 5 (.fork 3 (.fork 6 (.done) (.stop)) (.stop)) (.stop))) (.stop))) (.fork 3 (.fork 0 (.fork 4 (.fork 5 (.fork 6 (.done) (.stop)) (.stop)) (.stop)) (.fork 4 (.fork 0 (.fork 5 (.fork 6 (.done) (.stop)) (.stop)) (.stop)) (.stop))) (.fork 4 (.fork 0 (.fork 3 (.fork 5 (.fork 6 (.done) (.stop)) (.stop)) (.fork 5 (.fork 3 (.fork 6 (.done) (.stop)) (.stop)) (.stop))) (.fork 3 (.fork 0 (.fork 5 (.fork 6 (.done) (.stop)) (.stop)) (.stop)) (.stop))) (.stop)))))), (7, .first 0 [3, 4] [1, 2] (.first 1 [2, 4] [3] (.first 2 [4] [3] (.fork 3 (.fork 4 (.done) (.stop)) (.stop)))))] }
def fc180 : FCfg := { par := [.cst false, .cst false, .cst false], inn := [], out := [(3, some ([11], []))], loopK := [], frz := [], sch := [] }
def fc181 : FCfg := { par := [.ptr [.imm, .imm, .imm]], inn := [(2, some ([0, 5], [0, 5])), (8, some ([0, 5, 6, 7], [0, 5, 6])), (10, some ([0, 5, 6, 7, 9], [0, 5, 6])), (12, some ([0, 5, 6, 7, 9, 10], [0, 5, 6])), (14, some ([0, 5, 6, 7, 9, 10, 11], [0, 5, 6])), (15, some ([0, 5, 6], [0, 5, 6])), (16, some ([0, 5, 6], [0, 5, 6])), (17, some ([0, 5, 6], [0, 5, 6]))], out := [(9, some ([0, 5, 6, 7, 9, 33], [0, 5, 6]))], loopK := [(5, ([0, 5, 6, 7, 8], [0, 5, 6])), (9, ([0, 5, 6, 7, 9], [0, 5, 6]))], frz := [], sch := [] }
def fc183 : FCfg := { par := [.ptr [.imm, .imm, .imm], .cst false], inn := [], out := [], loopK := [], frz := [], sch := [] }
def fc184 : FCfg := { par := [.ptr [.imm, .imm, .imm], .cst false], inn := [(4, some ([0, 1, 5], [0])), (6, some ([1, 5], [0]))], out := [], loopK := [], frz := [], sch := [] }
def fc219 : FCfg := { par := [.cst false], inn := [(4, some ([0, 3, 4, 5, 6, 7], [4])), (7, some ([0], []))], out := [(4, some ([0, 5, 6, 7, 29], []))], loopK := [(2, ([0, 5, 6, 7], []))], frz := [], sch := [(4, .first 0 [1, 2, 3, 4, 5, 6, 7, 8, 9, 10, 11, 12, 13, 14, 15, 16, 17] [] (.fork 1 (.first 2 [3, 4, 5, 6, 7, 8, 9, 10, 11, 12, 13, 14, 15, 16, 17] [] (.first 3 [4, 5, 6, 7, 8, 9, 10, 11, 12, 13, 14, 15, 16, 17] [] (.first 4 [5, 6, 7, 8, 9, 10, 11, 12, 13, 14, 15, 16, 17] [] (.first 5 [6, 7, 8, 9, 10, 11, 12, 13, 14, 15, 16, 17] [] (.first 6 [7, 8, 9, 10, 11, 12, 13, 14, 15, 16, 17] [] (.first 7 [10, 11, 12, 15, 16, 17] [8, 9, 13, 14] (.first 8 [9, 10, 11, 12, 15, 16, 17] [13, 14] (.first 9 [10, 11, 12, 15, 16, 17] [13, 14] (.first 10 [11, 12, 15, 16, 17] [13, 14] (.first 11 [12, 15, 16, 17] [13, 14] (.first 12 [15, 16, 17] [13, 14] (.first 13 [14, 15, 16, 17] [] (.first 14 [15, 16, 17] [] (.first 15 [16, 17] [] (.first 16 [17] [] (.first 17 [] [] (.done))))))))))))))))) (.stop)))] }
def fc220 : FCfg := { par := [.ptr [.imm, .imm, .imm, .imm, .imm, .imm], .cst false, .cst false], inn := [(7, some ([0, 4, 6, 7, 11, 12], [0, 4, 6])), (8, some ([0, 4, 6, 7], [0, 4, 6])), (11, some ([0, 4, 6, 7, 10], [0, 4, 6, 10])), (12, some ([0, 4, 6, 7, 10], [0, 4, 6, 10])), (13, some ([0, 6, 7, 10], [0, 6, 10]))], out := [(5, some ([0, 4, 6, 7, 8, 11, 12, 27], [0, 4, 6])), (9, some ([0, 4, 6, 7, 9, 10], [0, 4, 6, 10])), (13, some ([0, 6, 10], [0, 6, 10])), (14, some ([6, 10], [0, 6, 10]))], loopK := [(3, ([0, 4, 6, 7, 11, 12], [0, 4, 6]))], frz := [], sch := [(5, .first 0 [2, 3, 4, 5, 12] [1, 6, 7, 8, 9, 10, 11] (.first 1 [4, 5, 12] [2, 3, 6, 7, 8, 9, 10, 11] (.first 2 [3, 4, 5, 12] [6, 7, 8, 9, 10, 11] (.first 3 [4, 5, 12] [6, 7, 8, 9, 10, 11] (.first 4 [5, 12] [6, 7, 8, 9, 10, 11] (.first 5 [12] [6, 7, 8, 9, 10, 11] (.first 6 [8, 9, 10, 11, 12] [7] (.first 7 [10, 11, 12] [8, 9] (.first 8 [9, 10, 11, 12] [] (.first 9 [10, 11, 12] [] (.first 10 [11, 12] [] (.first 11 [12] [] (.first 12 [] [] (.done)))))))))))))), (9, .first 0 [1, 2, 3, 8, 10, 12] [4, 5, 6, 7, 9, 11] (.first 1 [2, 3, 8, 10, 12] [4, 5, 6, 7, 9, 11] (.first 2 [3, 8, 10, 12] [4, 5, 6, 7, 9, 11] (.first 3 [8, 10, 12] [4, 5, 6, 7, 9, 11] (.first 4 [7, 8, 10, 12] [5, 6, 9, 11] (.first 5 [6, 7, 8, 10, 12] [9, 11] (.first 6 [7, 8, 10, 12] [9, 11] (.first 7 [8, 10, 12] [9, 11] (.first 9 [10, 12] [8, 11] (.fork 8 (.fork 10 (.fork 11 (.fork 12 (.done) (.stop)) (.stop)) (.fork 11 (.fork 10 (.fork 12 (.done) (.stop)) (.stop)) (.stop))) (.fork 11 (.fork 8 (.fork 10 (.fork 12 (.done) (.stop)) (.stop)) (.stop)) (.stop)))))))))))), (13, .first 0 [4, 5, 6, 7] [1, 2, 3] (.first 1 [6, 7] [2, 3, 4, 5] (.first 2 [3, 6, 7] [4, 5] (.first 3 [6, 7] [4, 5] (.first 4 [5, 6, 7] [] (.first 5 [6, 7] [] (.first 6 [7] [] (.fork 7 (.done) (.stop))))))))), (14, .first 0 [8, 9, 10] [1, 2, 3, 4, 5, 6, 7] (.first 1 [2, 3, 4, 7, 8, 9, 10] [5, 6] (.first 2 [3, 4, 7, 8, 9, 10] [5, 6] (.first 3 [4, 7, 8, 9, 10] [5, 6] (.first 4 [7, 8, 9, 10] [5, 6] (.first 5 [6, 7, 8, 9, 10] [] (.first 6 [7, 8, 9, 10] [] (.fork 7 (.first 8 [9, 10] [] (.first 9 [10] [] (.fork 10 (.done) (.stop)))) (.stop)))))))))] }
def fc230 : FCfg := { par := [.cst false, .cst false], inn := [(7, some ([], []))], out := [], loopK := [(2, ([0, 1, 7, 8], []))], frz := [], sch := [] }
def fc239 : FCfg := { par := [.ptr [.imm, .imm, .imm], .cst false], inn := [], out := [], loopK := [], frz := [], sch := [] }
def fc243 : FCfg := { par := [.ptr [.imm, .imm, .imm], .cst false], inn := [(2, some ([0, 4, 5], [0, 4, 5])), (4, some ([4, 5], [0, 4, 5]))], out := [(2, some ([0, 4, 5], [0, 4, 5]))], loopK := [], frz := [], sch := [(2, .first 2 [4, 5, 6, 7] [0, 1, 3] (.first 0 [1, 5, 6, 7] [3, 4] (.first 1 [5, 6, 7] [3, 4] (.fork 3 (.fork 4 (.first 5 [6, 7] [] (.first 6 [7] [] (.fork 7 (.done) (.stop)))) (.stop)) (.stop)))))] }
def fc244 : FCfg := { par := [.ptr [.imm, .imm, .imm], .cst false], inn := [(2, some ([0, 3, 4, 6], [0, 3, 4])), (10, some ([3, 4], [0, 3, 4]))], out := [], loopK := [], frz := [], sch := [] }
def fc245 : FCfg := { par := [.row, .cst false, .cst false], inn := [(4, some ([0, 1, 2, 6, 8], [0])), (6, some ([0, 1, 2, 6, 7], [0])), (11, some ([0, 1, 2, 6, 8], [0])), (13, some ([0, 1, 2, 6, 7], [0])), (16, some ([0, 1, 2, 6], [0]))], out := [], loopK := [(2, ([0, 1, 2, 6, 7, 8], [0])), (7, ([0, 1, 2, 6], [0])), (9, ([0, 1, 2, 6, 7, 8], [0]))], frz := [], sch := [] }
def fc246 : FCfg := { par := [.cst false, .cst false], inn := [(10, some ([1, 5, 14, 15, 16], [5])), (11, some ([], []))], out := [(7, some ([1, 5, 7, 14, 15, 16, 30], [5]))], loopK := [(5, ([1, 5, 14, 15, 16], [5]))], frz := [], sch := [] }
def fc248 : FCfg := { par := [.ptr [.imm, .imm, .imm]], inn := [(4, some ([0, 3], [0])), (5, some ([0, 3], [0])), (6, some ([0, 3], [0]))], out := [(2, some ([0, 3, 13], [0])), (3, some ([0, 3], [0])), (6, some ([0, 3, 53], [0]))], loopK := [], frz := [], sch := [(2, .first 0 [1, 2, 3, 9] [4, 5, 6, 7, 8] (.first 1 [2, 3, 9] [4, 5, 6, 7, 8] (.first 2 [3, 9] [4, 5, 6, 7, 8] (.first 3 [9] [4, 5, 6, 7, 8] (.first 4 [5, 6, 7, 8, 9] [] (.first 5 [6, 7, 8, 9] [] (.first 6 [7, 8, 9] [] (.first 7 [8, 9] [] (.first 8 [9] [] (.first 9 [] [] (.done))))))))))), (3, .first 0 [1, 2, 3, 8, 9, 10, 11] [4, 5, 6, 7] (.first 1 [2, 3, 8, 9, 10, 11] [4, 5, 6, 7] (.first 2 [3, 8, 9, 10, 11] [4, 5, 6, 7] (.first 3 [8, 9, 10, 11] [4, 5, 6, 7] (.first 4 [5, 6, 7, 8, 9, 10, 11] [] (.first 5 [6, 7, 8, 9, 10, 11] [] (.first 6 [7, 8, 9, 10, 11] [] (.first 7 [8, 9, 10, 11] [] (.first 8 [9, 10, 11] [] (.first 9 [10, 11] [] (.fork 10 (.fork 11 (.done) (.stop)) (.stop)))))))))))), (6, .first 0 [1, 2, 3, 9] [4, 5, 6, 7, 8] (.first 1 [2, 3, 9] [4, 5, 6, 7, 8] (.first 2 [3, 9] [4, 5, 6, 7, 8] (.first 3 [9] [4, 5, 6, 7, 8] (.first 4 [5, 6, 7, 8, 9] [] (.first 5 [6, 7, 8, 9] [] (.first 6 [7, 8, 9] [] (.first 7 [8, 9] [] (.first 8 [9] [] (.first 9 [] [] (.done)))))))))))] }
def fc250 : FCfg := { par := [.cst false], inn := [(8, some ([], []))], out := [(1, some ([0, 21], [])), (6, some ([0, 3, 49], []))], loopK := [(4, ([0, 3], []))], frz := [], sch := [] }
def fc263 : FCfg := { par := [.cst false], inn := [], out := [(1, some ([2], []))], loopK := [], frz := [], sch := [] }
def fc274 : FCfg := { par := [.row, .cst false, .cst false, .cst false], inn := [(2, some ([0, 1, 2, 3, 8], [0]))], out := [(4, some ([0, 1, 2, 3, 8, 9, 34], [0])), (6, some ([0, 1, 2, 3, 8, 9], [0]))], loopK := [(1, ([0, 1, 2, 3, 8], [0])), (4, ([0, 1, 2, 3, 8, 9], [0]))], frz := [], sch := [(4, .first 0 [2, 3, 4, 5, 6, 7, 8, 9, 10, 11, 12, 13, 14, 15, 16] [1] (.first 1 [2, 3, 4, 5, 6, 7, 8, 9, 10, 11, 12, 13, 14, 15, 16] [] (.first 2 [3, 4, 5, 6, 7, 8, 9, 10, 11, 12, 13, 14, 15, 16] [] (.first 3 [4, 5, 6, 7, 8, 9, 10, 11, 12, 13, 14, 15, 16] [] (.first 4 [14, 15, 16] [5, 6, 7, 8, 9, 10, 11, 12, 13] (.first 5 [7, 8, 14, 15, 16] [6, 9, 10, 11, 12, 13] (.first 6 [7, 8, 14, 15, 16] [9, 10, 11, 12, 13] (.first 7 [8, 14, 15, 16] [9, 10, 11, 12, 13] (.first 8 [14, 15, 16] [9, 10, 11, 12, 13] (.first 9 [12, 13, 14, 15, 16] [10, 11] (.first 10 [11, 12, 13, 14, 15, 16] [] (.first 11 [12, 13, 14, 15, 16] [] (.first 12 [13, 14, 15, 16] [] (.first 13 [14, 15, 16] [] (.fork 14 (.first 15 [16] [] (.first 16 [] [] (.done))) (.stop)))))))))))))))), (6, .first 0 [14, 15, 16, 17] [1, 2, 3, 4, 5, 6, 7, 8, 9, 10, 11, 12, 13] (.first 1 [14, 15, 16, 17] [2, 3, 4, 5, 6, 7, 8, 9, 10, 11, 12, 13] (.first 2 [16, 17] [3, 4, 5, 6, 7, 8, 9, 10, 11, 12, 13, 14, 15] (.first 3 [4, 16, 17] [5, 6, 7, 8, 9, 10, 11, 12, 13, 14, 15] (.first 4 [16, 17] [5, 6, 7, 8, 9, 10, 11, 12, 13, 14, 15] (.first 5 [8, 9, 14, 15, 16, 17] [6, 7, 10, 11, 12, 13] (.first 6 [7, 8, 9, 14, 15, 16, 17] [10, 11, 12, 13] (.first 7 [8, 9, 14, 15, 16, 17] [10, 11, 12, 13] (.first 8 [9, 14, 15, 16, 17] [10, 11, 12, 13] (.first 9 [14, 15, 16, 17] [10, 11, 12, 13] (.first 10 [12, 13, 14, 15, 16, 17] [11] (.first 11 [12, 13, 14, 15, 16, 17] [] (.first 12 [13, 14, 15, 16, 17] [] (.first 13 [14, 15, 16, 17] [] (.first 14 [15, 16, 17] [] (.fork 15 (.first 16 [17] [] (.fork 17 (.done) (.stop))) (.stop)))))))))))))))))] }
def fc275 : FCfg := { par := [.row, .cst false, .cst false, .cst false, .cst false], inn := [(8, some ([0, 1, 10], [0])), (20, some ([0, 2, 14], [0])), (32, some ([0, 1, 2, 3, 4, 18, 19, 20, 21], [0])), (38, some ([0, 1, 2, 3, 4, 18, 19, 20], [0])), (41, some ([0, 1, 3, 4, 18, 20, 24], [0])), (43, some ([0, 3, 4, 18, 24], [0]))], out := [(5, some ([0, 1, 4, 10, 11, 12, 50], [0])), (11, some ([0, 10, 13], [0])), (17, some ([0, 2, 4, 14, 15, 16, 103], [0])), (23, some ([0, 14, 17], [0])), (35, some ([0, 1, 2, 3, 4, 18, 19, 20, 21, 22, 23, 171], [0])), (39, some ([0, 1, 2, 3, 4, 18, 20, 24, 185], [0])), (41, some ([0, 1, 3, 4, 18, 20, 24, 199], [0])), (43, some ([0, 3, 4, 18, 24, 213], [0]))], loopK := [(3, ([0, 1, 4, 10, 11], [0])), (9, ([0, 10, 13], [0])), (15, ([0, 2, 4, 14, 15], [0])), (21, ([0, 14, 17], [0])), (33, ([0, 1, 2, 3, 4, 18, 19, 20, 21, 22], [0]))], frz := [], sch := [(5, .first 0 [9, 10] [1, 2, 3, 4, 5, 6, 7, 8] (.first 1 [3, 4, 9, 10] [2, 5, 6, 7, 8] (.first 2 [3, 4, 9, 10] [5, 6, 7, 8] (.first 3 [4, 9, 10] [5, 6, 7, 8] (.first 4 [9, 10] [5, 6, 7, 8] (.first 5 [7, 8, 9, 10] [6] (.first 6 [7, 8, 9, 10] [] (.first 7 [8, 9, 10] [] (.first 8 [9, 10] [] (.fork 9 (.first 10 [] [] (.done)) (.stop))))))))))), (11, .first 0 [14, 15, 16, 17] [1, 2, 3, 4, 5, 6, 7, 8, 9, 10, 11, 12, 13] (.first 1 [14, 15, 16, 17] [2, 3, 4, 5, 6, 7, 8, 9, 10, 11, 12, 13] (.first 2 [16, 17] [3, 4, 5, 6, 7, 8, 9, 10, 11, 12, 13, 14, 15] (.first 3 [4, 16, 17] [5, 6, 7, 8, 9, 10, 11, 12, 13, 14, 15] (.first 4 [16, 17] [5, 6, 7, 8, 9, 10, 11, 12, 13, 14, 15] (.first 5 [8, 9, 14, 15, 16, 17] [6, 7, 10, 11, 12, 13] (.first 6 [7, 8, 9, 14, 15, 16, 17] [10, 11, 12, 13] (.first 7 [8, 9, 14, 15, 16, 17] [10, 11, 12, 13] (.first 8 [9, 14, 15, 16, 17] [10, 11, 12, 13] (.first 9 [14, 15, 16, 17] [10, 11, 12, 13] (.first 10 [12, 13, 14, 15, 16, 17] [11] (.first 11 [12, 13, 14, 15, 16, 17] [] (.first 12 [13, 14, 15, 16, 17] [] (.first 13 [14, 15, 16, 17] [] (.first 14 [15, 16, 17] [] (.fork 15 (.first 16 [17] [] (.fork 17 (.done) (.stop))) (.stop))))))))))))))))), (17, .first 0 [9, 10, 11] [1, 2, 3, 4, 5, 6, 7, 8] (.first 1 [3, 4, 9, 10, 11] [2, 5, 6, 7, 8] (.first 2 [3, 4, 9, 10, 11] [5, 6, 7, 8] (.first 3 [4, 9, 10, 11] [5, 6, 7, 8] (.first 4 [9, 10, 11] [5, 6, 7, 8] (.first 5 [7, 8, 9, 10, 11] [6] (.first 6 [7, 8, 9, 10, 11] [] (.first 7 [8, 9, 10, 11] [] (.first 8 [9, 10, 11] [] (.fork 9 (.first 10 [11] [] (.first 11 [] [] (.done))) (.stop))))))))))), (23, .first 0 [14, 15, 16, 17] [1, 2, 3, 4, 5, 6, 7, 8, 9, 10, 11, 12, 13] (.first 1 [14, 15, 16, 17] [2, 3, 4, 5, 6, 7, 8, 9, 10, 11, 12, 13] (.first 2 [16, 17] [3, 4, 5, 6, 7, 8, 9, 10, 11, 12, 13, 14, 15] (.first 3 [4, 16, 17] [5, 6, 7, 8, 9, 10, 11, 12, 13, 14, 15] (.first 4 [16, 17] [5, 6, 7, 8, 9, 10, 11, 12, 13, 14, 15] (.first 5 [8, 9, 14, 15, 16, 17] [6, 7, 10, 11, 12, 13] (.first 6 [7, 8, 9, 14, 15, 16, 17] [10, 11, 12, 13] (.first 7 [8, 9, 14, 15, 16, 17] [10, 11, 12, 13] (.first 8 [9, 14, 15, 16, 17] [10, 11, 12, 13] (.first 9 [14, 15, 16, 17] [10, 11, 12, 13] (.first 10 [12, 13, 14, 15, 16, 17] [11] (.first 11 [12, 13, 14, 15, 16, 17] [] (.first 12 [13, 14, 15, 16, 17] [] (.first 13 [14, 15, 16, 17] [] (.first 14 [15, 16, 17] [] (.fork 15 (.first 16 [17] [] (.fork 17 (.done) (.stop))) (.stop))))))))))))))))), (35, .first 0 [11, 12, 13] [1, 2, 3, 4, 5, 6, 7, 8, 9, 10] (.first 1 [5, 6, 11, 12, 13] [2, 3, 4, 7, 8, 9, 10] (.first 2 [4, 5, 6, 11, 12, 13] [3, 7, 8, 9, 10] (.first 3 [4, 5, 6, 11, 12, 13] [7, 8, 9, 10] (.first 4 [5, 6, 11, 12, 13] [7, 8, 9, 10] (.first 5 [6, 11, 12, 13] [7, 8, 9, 10] (.first 6 [11, 12, 13] [7, 8, 9, 10] (.first 7 [9, 10, 11, 12, 13] [8] (.first 8 [9, 10, 11, 12, 13] [] (.first 9 [10, 11, 12, 13] [] (.first 10 [11, 12, 13] [] (.fork 11 (.first 12 [13] [] (.first 13 [] [] (.done))) (.stop)))))))))))))] }
def fc285 : FCfg := { par := [.row, .cst false, .cst false, .cst false, .cst false], inn := [(5, some ([0, 2, 4, 10, 11], [0])), (7, some ([0, 2, 4, 10, 11], [0])), (8, some ([0, 2, 4, 10], [0]))], out := [], loopK := [(2, ([0, 2, 4, 10, 11], [0]))], frz := [], sch := [] }
def fc287 : FCfg := { par := [.row, .cst false, .cst false, .cst false, .cst false], inn := [], out := [(3, some ([0, 1, 2, 3, 10], [0]))], loopK := [(1, ([0, 1, 2, 3, 10], [0]))], frz := [], sch := [(3, .first 0 [20, 21, 22, 23] [1, 2, 3, 4, 5, 6, 7, 8, 9, 10, 11, 12, 13, 14, 15, 16, 17, 18, 19] (.first 1 [3, 20, 21, 22, 23] [2, 4, 5, 6, 7, 8, 9, 10, 11, 12, 13, 14, 15, 16, 17, 18, 19] (.first 2 [3, 20, 21, 22, 23] [4, 5, 6, 7, 8, 9, 10, 11, 12, 13, 14, 15, 16, 17, 18, 19] (.first 3 [20, 21, 22, 23] [4, 5, 6, 7, 8, 9, 10, 11, 12, 13, 14, 15, 16, 17, 18, 19] (.first 4 [22, 23] [5, 6, 7, 8, 9, 10, 11, 12, 13, 14, 15, 16, 17, 18, 19, 20, 21] (.first 5 [7, 22, 23] [6, 8, 9, 10, 11, 12, 13, 14, 15, 16, 17, 18, 19, 20, 21] (.first 6 [7, 22, 23] [8, 9, 10, 11, 12, 13, 14, 15, 16, 17, 18, 19, 20, 21] (.first 7 [22, 23] [8, 9, 10, 11, 12, 13, 14, 15, 16, 17, 18, 19, 20, 21] (.first 8 [12, 13, 20, 21, 22, 23] [9, 10, 11, 14, 15, 16, 17, 18, 19] (.first 9 [11, 12, 13, 20, 21, 22, 23] [10, 14, 15, 16, 17, 18, 19] (.first 10 [11, 12, 13, 20, 21, 22, 23] [14, 15, 16, 17, 18, 19] (.first 11 [12, 13, 20, 21, 22, 23] [14, 15, 16, 17, 18, 19] (.first 12 [13, 20, 21, 22, 23] [14, 15, 16, 17, 18, 19] (.first 13 [20, 21, 22, 23] [14, 15, 16, 17, 18, 19] (.first 14 [18, 19, 20, 21, 22, 23] [15, 16, 17] (.first 15 [17, 18, 19, 20, 21, 22, 23] [16] (.first 16 [17, 18, 19, 20, 21, 22, 23] [] (.first 17 [18, 19, 20, 21, 22, 23] [] (.first 18 [19, 20, 21, 22, 23] [] (.first 19 [20, 21, 22, 23] [] (.first 20 [21, 22, 23] [] (.fork 21 (.first 22 [23] [] (.fork 23 (.done) (.stop))) (.stop)))))))))))))))))))))))] }
def fcs : List (Nat × FCfg) := [(13, fc13), (14, fc14), (56, fc56), (79, fc79), (80, fc80), (81, fc81), (82, fc82), (83, fc83), (84, fc84), (85, fc85), (87, fc87), (92, fc92), (99, fc99), (137, fc137), (138, fc138), (152, fc152), (175, fc175), (176, fc176), (177, fc177), (178, fc178), (179, fc179), (180, fc180), (181, fc181), (183, fc183), (184, fc184), (219, fc219), (220, fc220), (230, fc230), (239, fc239), (243, fc243), (244, fc244), (245, fc245), (246, fc246), (248, fc248), (250, fc250), (263, fc263), (274, fc274), (275, fc275), (285, fc285), (287, fc287)]
def ons : List (Nat × Bool) := [(13, true), (14, true), (56, true), (79, true), (80, true), (81, true), (82, true), (83, true), (84, true), (85, true), (87, true), (92, true), (99, true), (137, true), (138, true), (152, true), (175, true), (176, true), (177, true), (178, true), (179, true), (180, true), (181, true), (183, true), (184, true), (219, true), (220, true), (230, true), (239, true), (243, true), (244, true), (245, true), (246, true), (248, true), (250, true), (263, true), (274, true), (275, true), (285, true), (287, true)]
def cfg : Cfg := mkCfg ons fcs [(187, some (extCloneN 1 8))]
theorem c13 : cfg.fc 13 = fc13 := rfl
theorem z13 : (cfg.fc 13).frz = [] := rfl
theorem c14 : cfg.fc 14 = fc14 := rfl
theorem z14 : (cfg.fc 14).frz = [] := rfl
theorem c56 : cfg.fc 56 = fc56 := rfl
theorem z56 : (cfg.fc 56).frz = [] := rfl
theorem c79 : cfg.fc 79 = fc79 := rfl
theorem z79 : (cfg.fc 79).frz = [] := rfl
theorem c80 : cfg.fc 80 = fc80 := rfl
theorem z80 : (cfg.fc 80).frz = [] := rfl
theorem c81 : cfg.fc 81 = fc81 := rfl
theorem z81 : (cfg.fc 81).frz = [] := rfl
theorem c82 : cfg.fc 82 = fc82 := rfl
theorem z82 : (cfg.fc 82).frz = [] := rfl
theorem c83 : cfg.fc 83 = fc83 := rfl
theorem z83 : (cfg.fc 83).frz = [] := rfl
theorem c84 : cfg.fc 84 = fc84 := rfl
theorem z84 : (cfg.fc 84).frz = [] := rfl
theorem c85 : cfg.fc 85 = fc85 := rfl
theorem z85 : (cfg.fc 85).frz = [] := rfl
theorem c87 : cfg.fc 87 = fc87 := rfl
theorem z87 : (cfg.fc 87).frz = [] := rfl
theorem c92 : cfg.fc 92 = fc92 := rfl
theorem z92 : (cfg.fc 92).frz = [] := rfl
theorem c99 : cfg.fc 99 = fc99 := rfl
theorem z99 : (cfg.fc 99).frz = [] := rfl
theorem c137 : cfg.fc 137 = fc137 := rfl
theorem z137 : (cfg.fc 137).frz = [] := rfl
theorem c138 : cfg.fc 138 = fc138 := rfl
theorem z138 : (cfg.fc 138).frz = [] := rfl
theorem c152 : cfg.fc 152 = fc152 := rfl
theorem z152 : (cfg.fc 152).frz = [] := rfl
theorem c175 : cfg.fc 175 = fc175 := rfl
theorem z175 : (cfg.fc 175).frz = [] := rfl
theorem c176 : cfg.fc 176 = fc176 := rfl
theorem z176 : (cfg.fc 176).frz = [] := rfl
theorem c177 : cfg.fc 177 = fc177 := rfl
theorem z177 : (cfg.fc 177).frz = [] := rfl
theorem c178 : cfg.fc 178 = fc178 := rfl
theorem z178 : (cfg.fc 178).frz = [] := rfl
theorem c179 : cfg.fc 179 = fc179 := rfl
theorem z179 : (cfg.fc 179).frz = [] := rfl
theorem c180 : cfg.fc 180 = fc180 := rfl
theorem z180 : (cfg.fc 180).frz = [] := rfl
theorem c181 : cfg.fc 181 = fc181 := rfl
theorem z181 : (cfg.fc 181).frz = [] := rfl
theorem c183 : cfg.fc 183 = fc183 := rfl
theorem z183 : (cfg.fc 183).frz = [] := rfl
theorem c184 : cfg.fc 184 = fc184 := rfl
theorem z184 : (cfg.fc 184).frz = [] := rfl
theorem c219 : cfg.fc 219 = fc219 := rfl
theorem z219 : (cfg.fc 219).frz = [] := rfl
theorem c220 : cfg.fc 220 = fc220 := rfl
theorem z220 : (cfg.fc 220).frz = [] := rfl
theorem c230 : cfg.fc 230 = fc230 := rfl
theorem z230 : (cfg.fc 230).frz = [] := rfl
theorem c239 : cfg.fc 239 = fc239 := rfl
theorem z239 : (cfg.fc 239).frz = [] := rfl
theorem c243 : cfg.fc 243 = fc243 := rfl
theorem z243 : (cfg.fc 243).frz = [] := rfl
theorem c244 : cfg.fc 244 = fc244 := rfl
theorem z244 : (cfg.fc 244).frz = [] := rfl
theorem c245 : cfg.fc 245 = fc245 := rfl
theorem z245 : (cfg.fc 245).frz = [] := rfl
theorem c246 : cfg.fc 246 = fc246 := rfl
theorem z246 : (cfg.fc 246).frz = [] := rfl
theorem c248 : cfg.fc 248 = fc248 := rfl
theorem z248 : (cfg.fc 248).frz = [] := rfl
theorem c250 : cfg.fc 250 = fc250 := rfl
theorem z250 : (cfg.fc 250).frz = [] := rfl
theorem c263 : cfg.fc 263 = fc263 := rfl
theorem z263 : (cfg.fc 263).frz = [] := rfl
theorem c274 : cfg.fc 274 = fc274 := rfl
theorem z274 : (cfg.fc 274).frz = [] := rfl
theorem c275 : cfg.fc 275 = fc275 := rfl
theorem z275 : (cfg.fc 275).frz = [] := rfl
theorem c285 : cfg.fc 285 = fc285 := rfl
theorem z285 : (cfg.fc 285).frz = [] := rfl
theorem c287 : cfg.fc 287 = fc287 := rfl
theorem z287 : (cfg.fc 287).frz = [] := rfl
theorem bF209 : buildF Try.prog 209 = some ([.im 0 (.sc (.string ⟨#[]⟩)), .im 0 (.sc (.int .i64 0)), .im 0 (.sc (.int .i64 0)), .im 0 (.sc (.int .i64 0))], [(0, 1), (1, 1), (2, 1), (3, 1)]) := by kernel_rfl
theorem bF214 : buildF Try.prog 214 = some ([.nil, .im 0 (.sc (.int .i64 0)), .im 0 (.sc (.int .i64 0)), .im 0 (.sc (.bool false)), .nil, .im 0 (.sc (.int .i64 0))], [(0, 1), (1, 1), (2, 1), (3, 1), (4, 1), (5, 1)]) := by kernel_rfl
theorem bF218 : buildF Try.prog 218 = some ([.im 0 (.sc (.int .i64 0)), .im 0 (.sc (.int .i64 0)), .im 0 (.sc (.int .i64 0)), .im 0 (.sc (.int .i64 0)), .im 0 (.sc (.int .i64 0)), .im 0 (.sc (.int .i64 0))], [(0, 1), (1, 4), (5, 1)]) := by kernel_rfl
theorem bF279 : buildF Try.prog 279 = some ([.im 0 (.sc (.int .i64 0)), .im 0 (.sc (.int .i64 0)), .im 0 (.sc (.int .i64 0)), .im 0 (.sc (.int .i64 0))], [(0, 1), (1, 1), (2, 1), (3, 1)]) := by kernel_rfl
theorem bF283 : buildF Try.prog 283 = some ([.nil, .im 0 (.sc (.int .i64 0)), .im 0 (.sc (.int .u64 0))], [(0, 1), (1, 1), (2, 1)]) := by kernel_rfl
theorem eF27 : elemSz Try.prog 27 = some (2, 1) := by kernel_rfl
theorem eF274 : elemSz Try.prog 274 = some (279, 4) := by kernel_rfl
theorem eF81 : elemSz Try.prog 81 = some (209, 4) := by kernel_rfl
theorem fF209_0 : fieldF Try.prog 209 0 = some 0 := by kernel_rfl
theorem fF209_1 : fieldF Try.prog 209 1 = some 1 := by kernel_rfl
theorem fF209_2 : fieldF Try.prog 209 2 = some 2 := by kernel_rfl
theorem fF209_3 : fieldF Try.prog 209 3 = some 3 := by kernel_rfl
theorem fF214_0 : fieldF Try.prog 214 0 = some 0 := by kernel_rfl
theorem fF214_1 : fieldF Try.prog 214 1 = some 1 := by kernel_rfl
theorem fF214_2 : fieldF Try.prog 214 2 = some 2 := by kernel_rfl
theorem fF214_3 : fieldF Try.prog 214 3 = some 3 := by kernel_rfl
theorem fF214_4 : fieldF Try.prog 214 4 = some 4 := by kernel_rfl
theorem fF214_5 : fieldF Try.prog 214 5 = some 5 := by kernel_rfl
theorem fF218_0 : fieldF Try.prog 218 0 = some 0 := by kernel_rfl
theorem fF218_1 : fieldF Try.prog 218 1 = some 1 := by kernel_rfl
theorem fF218_2 : fieldF Try.prog 218 2 = some 5 := by kernel_rfl
theorem fF279_0 : fieldF Try.prog 279 0 = some 0 := by kernel_rfl
theorem fF279_2 : fieldF Try.prog 279 2 = some 2 := by kernel_rfl
theorem fF279_3 : fieldF Try.prog 279 3 = some 3 := by kernel_rfl
theorem fF283_0 : fieldF Try.prog 283 0 = some 0 := by kernel_rfl
theorem fF283_1 : fieldF Try.prog 283 1 = some 1 := by kernel_rfl
theorem fF283_2 : fieldF Try.prog 283 2 = some 2 := by kernel_rfl
theorem kF137_81_2 : callK Try.prog cfg 137 0 [81, 2] = [(.cst false, [some 4]), (.cst false, [none])] := by kernel_rfl
theorem kF138_212_27_218 : callK Try.prog cfg 138 0 [212, 27, 218] = [(.ptr [.imm, .imm, .imm, .imm, .sh, .imm], [none]), (.mv, [some 1]), (.cst false, [none, none, none, none, none, none])] := by kernel_rfl
theorem kF14_22 : callK Try.prog cfg 14 0 [22] = [(.cst false, [some 1])] := by kernel_rfl
theorem kF152_27_2 : callK Try.prog cfg 152 0 [27, 2] = [(.cst false, [some 1]), (.cst false, [none])] := by kernel_rfl
theorem kF175_121 : callK Try.prog cfg 175 0 [121] = [(.ptr [.imm, .imm, .imm], [none])] := by kernel_rfl
theorem kF176_121 : callK Try.prog cfg 176 0 [121] = [(.ptr [.imm, .imm, .imm], [none])] := by kernel_rfl
theorem kF177_27_273 : callK Try.prog cfg 177 0 [27, 273] = [(.row, [some 1]), (.cst false, [none])] := by kernel_rfl
theorem kF178_2_2_0 : callK Try.prog cfg 178 0 [2, 2, 0] = [(.cst false, [none]), (.cst false, [none]), (.cst false, [none])] := by kernel_rfl
theorem kF179_81_27_2 : callK Try.prog cfg 179 0 [81, 27, 2] = [(.cst false, [some 4]), (.cst false, [some 1]), (.cst false, [none])] := by kernel_rfl
theorem kF180_81_27_2 : callK Try.prog cfg 180 0 [81, 27, 2] = [(.cst false, [some 4]), (.cst false, [some 1]), (.cst false, [none])] := by kernel_rfl
theorem kF181_121 : callK Try.prog cfg 181 0 [121] = [(.ptr [.imm, .imm, .imm], [none])] := by kernel_rfl
theorem kF183_121_2 : callK Try.prog cfg 183 0 [121, 2] = [(.ptr [.imm, .imm, .imm], [none]), (.cst false, [none])] := by kernel_rfl
theorem kF184_121_2 : callK Try.prog cfg 184 0 [121, 2] = [(.ptr [.imm, .imm, .imm], [none]), (.cst false, [none])] := by kernel_rfl
theorem kF187_27 : callK Try.prog cfg 187 0 [27] = [(.cst false, [some 1])] := by kernel_rfl
theorem kF219_81 : callK Try.prog cfg 219 0 [81] = [(.cst false, [some 4])] := by kernel_rfl
theorem kF220_218_209_2 : callK Try.prog cfg 220 0 [218, 209, 2] = [(.ptr [.imm, .imm, .imm, .imm, .imm, .imm], [none, none, none, none, none, none]), (.cst false, [none, none, none, none]), (.cst false, [none])] := by kernel_rfl
theorem kF230_27_2 : callK Try.prog cfg 230 0 [27, 2] = [(.cst false, [some 1]), (.cst false, [none])] := by kernel_rfl
theorem kF239_121_296 : callK Try.prog cfg 239 0 [121, 296] = [(.ptr [.imm, .imm, .imm], [none]), (.cst false, [some 1])] := by kernel_rfl
theorem kF243_121_9 : callK Try.prog cfg 243 0 [121, 9] = [(.ptr [.imm, .imm, .imm], [none]), (.cst false, [none])] := by kernel_rfl
theorem kF244_121_209 : callK Try.prog cfg 244 0 [121, 209] = [(.ptr [.imm, .imm, .imm], [none]), (.cst false, [none, none, none, none])] := by kernel_rfl
theorem kF245_27_3_273 : callK Try.prog cfg 245 0 [27, 3, 273] = [(.row, [some 1]), (.cst false, [none]), (.cst false, [none])] := by kernel_rfl
theorem kF246_27_3 : callK Try.prog cfg 246 0 [27, 3] = [(.cst false, [some 1]), (.cst false, [none])] := by kernel_rfl
theorem kF248_121 : callK Try.prog cfg 248 0 [121] = [(.ptr [.imm, .imm, .imm], [none])] := by kernel_rfl
theorem kF250_9 : callK Try.prog cfg 250 0 [9] = [(.cst false, [none])] := by kernel_rfl
theorem kF263_209 : callK Try.prog cfg 263 0 [209] = [(.cst false, [none, none, none, none])] := by kernel_rfl
theorem kF274_27_3_3_273 : callK Try.prog cfg 274 0 [27, 3, 3, 273] = [(.row, [some 1]), (.cst false, [none]), (.cst false, [none]), (.cst false, [none])] := by kernel_rfl
theorem kF275_27_3_3_3_273 : callK Try.prog cfg 275 0 [27, 3, 3, 3, 273] = [(.row, [some 1]), (.cst false, [none]), (.cst false, [none]), (.cst false, [none]), (.cst false, [none])] := by kernel_rfl
theorem kF285_27_3_3_3_273 : callK Try.prog cfg 285 0 [27, 3, 3, 3, 273] = [(.row, [some 1]), (.cst false, [none]), (.cst false, [none]), (.cst false, [none]), (.cst false, [none])] := by kernel_rfl
theorem kF287_27_3_3_3_273 : callK Try.prog cfg 287 0 [27, 3, 3, 3, 273] = [(.row, [some 1]), (.cst false, [none]), (.cst false, [none]), (.cst false, [none]), (.cst false, [none])] := by kernel_rfl
theorem kF56_81_2_2 : callK Try.prog cfg 56 0 [81, 2, 2] = [(.cst false, [some 4]), (.cst false, [none]), (.cst false, [none])] := by kernel_rfl
theorem kF79_22 : callK Try.prog cfg 79 0 [22] = [(.cst false, [some 1])] := by kernel_rfl
theorem kF80_81_2 : callK Try.prog cfg 80 0 [81, 2] = [(.cst false, [some 4]), (.cst false, [none])] := by kernel_rfl
theorem kF81_81_27_2 : callK Try.prog cfg 81 0 [81, 27, 2] = [(.cst false, [some 4]), (.cst false, [some 1]), (.cst false, [none])] := by kernel_rfl
theorem kF82_81_27_2 : callK Try.prog cfg 82 0 [81, 27, 2] = [(.cst false, [some 4]), (.cst false, [some 1]), (.cst false, [none])] := by kernel_rfl
theorem kF83_22 : callK Try.prog cfg 83 0 [22] = [(.cst false, [some 1])] := by kernel_rfl
theorem kF84_81_27_2 : callK Try.prog cfg 84 0 [81, 27, 2] = [(.cst false, [some 4]), (.cst false, [some 1]), (.cst false, [none])] := by kernel_rfl
theorem kF85_22 : callK Try.prog cfg 85 0 [22] = [(.cst false, [some 1])] := by kernel_rfl
theorem kF87_121 : callK Try.prog cfg 87 0 [121] = [(.ptr [.imm, .imm, .imm], [none])] := by kernel_rfl
theorem kF92_2_2_2 : callK Try.prog cfg 92 0 [2, 2, 2] = [(.cst false, [none]), (.cst false, [none]), (.cst false, [none])] := by kernel_rfl
theorem kF99_121_27 : callK Try.prog cfg 99 0 [121, 27] = [(.ptr [.imm, .imm, .imm], [none]), (.cst false, [some 1])] := by kernel_rfl
theorem rF13 : resK Try.prog (Try.f13.results.toList.zip Try.f13.resultTypes.toList) = [(.tmp 4, [none], none)] := by kernel_rfl
theorem rF137 : resK Try.prog (Try.f137.results.toList.zip Try.f137.resultTypes.toList) = [(.tmp 4, [none], none)] := by kernel_rfl
theorem rF138 : resK Try.prog (Try.f138.results.toList.zip Try.f138.resultTypes.toList) = [(.tmp 6, [none], none)] := by kernel_rfl
theorem rF14 : resK Try.prog (Try.f14.results.toList.zip Try.f14.resultTypes.toList) = [(.tmp 2, [none], none)] := by kernel_rfl
theorem rF152 : resK Try.prog (Try.f152.results.toList.zip Try.f152.resultTypes.toList) = [(.tmp 4, [none], none)] := by kernel_rfl
theorem rF175 : resK Try.prog (Try.f175.results.toList.zip Try.f175.resultTypes.toList) = [(.tmp 2, [some 4], none)] := by kernel_rfl
theorem rF176 : resK Try.prog (Try.f176.results.toList.zip Try.f176.resultTypes.toList) = [(.tmp 2, [none], none)] := by kernel_rfl
theorem rF177 : resK Try.prog (Try.f177.results.toList.zip Try.f177.resultTypes.toList) = [] := by kernel_rfl
theorem rF178 : resK Try.prog (Try.f178.results.toList.zip Try.f178.resultTypes.toList) = [(.tmp 5, [none], none)] := by kernel_rfl
theorem rF179 : resK Try.prog (Try.f179.results.toList.zip Try.f179.resultTypes.toList) = [(.tmp 6, [some 4], none), (.tmp 7, [none], none)] := by kernel_rfl
theorem rF180 : resK Try.prog (Try.f180.results.toList.zip Try.f180.resultTypes.toList) = [(.tmp 6, [none], none)] := by kernel_rfl
theorem rF181 : resK Try.prog (Try.f181.results.toList.zip Try.f181.resultTypes.toList) = [(.tmp 2, [some 4], none), (.tmp 3, [some 1], none), (.tmp 4, [none], none)] := by kernel_rfl
theorem rF183 : resK Try.prog (Try.f183.results.toList.zip Try.f183.resultTypes.toList) = [(.tmp 4, [none], none)] := by kernel_rfl
theorem rF184 : resK Try.prog (Try.f184.results.toList.zip Try.f184.resultTypes.toList) = [(.tmp 4, [none], none)] := by kernel_rfl
theorem rF187 : resK Try.prog (Try.f187.results.toList.zip Try.f187.resultTypes.toList) = [(.tmp 2, [some 1], none)] := by kernel_rfl
theorem rF219 : resK Try.prog (Try.f219.results.toList.zip Try.f219.resultTypes.toList) = [(.tmp 2, [none], none)] := by kernel_rfl
theorem rF220 : resK Try.prog (Try.f220.results.toList.zip Try.f220.resultTypes.toList) = [(.cell 6 279, [none, none, none, none], some (true, 4))] := by kernel_rfl
theorem rF230 : resK Try.prog (Try.f230.results.toList.zip Try.f230.resultTypes.toList) = [(.tmp 4, [none], none)] := by kernel_rfl
theorem rF239 : resK Try.prog (Try.f239.results.toList.zip Try.f239.resultTypes.toList) = [(.tmp 4, [none], none)] := by kernel_rfl
theorem rF243 : resK Try.prog (Try.f243.results.toList.zip Try.f243.resultTypes.toList) = [(.cell 4 209, [none, none, none, none], some (true, 4))] := by kernel_rfl
theorem rF244 : resK Try.prog (Try.f244.results.toList.zip Try.f244.resultTypes.toList) = [(.cell 4 209, [none, none, none, none], some (true, 4))] := by kernel_rfl
theorem rF245 : resK Try.prog (Try.f245.results.toList.zip Try.f245.resultTypes.toList) = [] := by kernel_rfl
theorem rF246 : resK Try.prog (Try.f246.results.toList.zip Try.f246.resultTypes.toList) = [(.tmp 4, [none], none)] := by kernel_rfl
theorem rF248 : resK Try.prog (Try.f248.results.toList.zip Try.f248.resultTypes.toList) = [(.tmp 2, [none], none)] := by kernel_rfl
theorem rF250 : resK Try.prog (Try.f250.results.toList.zip Try.f250.resultTypes.toList) = [(.tmp 2, [none], none)] := by kernel_rfl
theorem rF263 : resK Try.prog (Try.f263.results.toList.zip Try.f263.resultTypes.toList) = [(.tmp 2, [none], none)] := by kernel_rfl
theorem rF274 : resK Try.prog (Try.f274.results.toList.zip Try.f274.resultTypes.toList) = [] := by kernel_rfl
theorem rF275 : resK Try.prog (Try.f275.results.toList.zip Try.f275.resultTypes.toList) = [] := by kernel_rfl
theorem rF285 : resK Try.prog (Try.f285.results.toList.zip Try.f285.resultTypes.toList) = [] := by kernel_rfl
theorem rF287 : resK Try.prog (Try.f287.results.toList.zip Try.f287.resultTypes.toList) = [] := by kernel_rfl
theorem rF56 : resK Try.prog (Try.f56.results.toList.zip Try.f56.resultTypes.toList) = [(.tmp 6, [some 1], none), (.tmp 7, [none], none), (.tmp 8, [none], none)] := by kernel_rfl
theorem rF79 : resK Try.prog (Try.f79.results.toList.zip Try.f79.resultTypes.toList) = [(.tmp 2, [some 4], none), (.tmp 3, [none], none), (.tmp 4, [none], none)] := by kernel_rfl
theorem rF80 : resK Try.prog (Try.f80.results.toList.zip Try.f80.resultTypes.toList) = [(.tmp 4, [some 1], none), (.tmp 5, [none], none), (.tmp 6, [none], none)] := by kernel_rfl
theorem rF81 : resK Try.prog (Try.f81.results.toList.zip Try.f81.resultTypes.toList) = [(.tmp 6, [none], none), (.tmp 7, [none], none)] := by kernel_rfl
theorem rF82 : resK Try.prog (Try.f82.results.toList.zip Try.f82.resultTypes.toList) = [(.tmp 6, [none], none), (.tmp 7, [none], none)] := by kernel_rfl
theorem rF83 : resK Try.prog (Try.f83.results.toList.zip Try.f83.resultTypes.toList) = [(.tmp 2, [some 4], none), (.tmp 3, [some 1], none), (.tmp 4, [none], none)] := by kernel_rfl
theorem rF84 : resK Try.prog (Try.f84.results.toList.zip Try.f84.resultTypes.toList) = [(.tmp 6, [none], none), (.tmp 7, [none], none)] := by kernel_rfl
theorem rF85 : resK Try.prog (Try.f85.results.toList.zip Try.f85.resultTypes.toList) = [(.tmp 2, [none], none)] := by kernel_rfl
theorem rF87 : resK Try.prog (Try.f87.results.toList.zip Try.f87.resultTypes.toList) = [(.tmp 2, [none], none)] := by kernel_rfl
theorem rF92 : resK Try.prog (Try.f92.results.toList.zip Try.f92.resultTypes.toList) = [(.tmp 6, [none], none)] := by kernel_rfl
theorem rF99 : resK Try.prog (Try.f99.results.toList.zip Try.f99.resultTypes.toList) = [(.tmp 4, [none], none)] := by kernel_rfl
theorem sF22 : sliceF Try.prog 22 = some (5, 1, [none], false, 1, [.im 0 (.sc (.int .u8 0))]) := by kernel_rfl
theorem sF27 : sliceF Try.prog 27 = some (2, 1, [none], false, 8, [.im 0 (.sc (.int .i64 0))]) := by kernel_rfl
theorem sF274 : sliceF Try.prog 274 = some (279, 4, [none, none, none, none], true, 32, [.im 0 (.sc (.int .i64 0)), .im 0 (.sc (.int .i64 0)), .im 0 (.sc (.int .i64 0)), .im 0 (.sc (.int .i64 0))]) := by kernel_rfl
theorem sF296 : sliceF Try.prog 296 = some (9, 1, [none], false, 16, [.im 0 (.sc (.string ⟨#[]⟩))]) := by kernel_rfl
theorem sF363 : sliceF Try.prog 363 = some (4, 1, [none], false, 1, [.im 0 (.sc (.bool false))]) := by kernel_rfl
theorem sF81 : sliceF Try.prog 81 = some (209, 4, [none, none, none, none], true, 40, [.im 0 (.sc (.string ⟨#[]⟩)), .im 0 (.sc (.int .i64 0)), .im 0 (.sc (.int .i64 0)), .im 0 (.sc (.int .i64 0))]) := by kernel_rfl
theorem tF2 : tyF Try.prog 2 = some ([.im 0 (.sc (.int .i64 0))], [none], false, 1) := by kernel_rfl
theorem tF209 : tyF Try.prog 209 = some ([.im 0 (.sc (.string ⟨#[]⟩)), .im 0 (.sc (.int .i64 0)), .im 0 (.sc (.int .i64 0)), .im 0 (.sc (.int .i64 0))], [none, none, none, none], true, 4) := by kernel_rfl
theorem tF214 : tyF Try.prog 214 = some ([.nil, .im 0 (.sc (.int .i64 0)), .im 0 (.sc (.int .i64 0)), .im 0 (.sc (.bool false)), .nil, .im 0 (.sc (.int .i64 0))], [some 4, none, none, none, some 1, none], true, 6) := by kernel_rfl
theorem tF218 : tyF Try.prog 218 = some ([.im 0 (.sc (.int .i64 0)), .im 0 (.sc (.int .i64 0)), .im 0 (.sc (.int .i64 0)), .im 0 (.sc (.int .i64 0)), .im 0 (.sc (.int .i64 0)), .im 0 (.sc (.int .i64 0))], [none, none, none, none, none, none], true, 6) := by kernel_rfl
theorem tF22 : tyF Try.prog 22 = some ([.nil], [some 1], false, 1) := by kernel_rfl
theorem tF27 : tyF Try.prog 27 = some ([.nil], [some 1], false, 1) := by kernel_rfl
theorem tF279 : tyF Try.prog 279 = some ([.im 0 (.sc (.int .i64 0)), .im 0 (.sc (.int .i64 0)), .im 0 (.sc (.int .i64 0)), .im 0 (.sc (.int .i64 0))], [none, none, none, none], true, 4) := by kernel_rfl
theorem tF281 : tyF Try.prog 281 = some ([.im 0 (.sc (.int .u64 0))], [none], false, 1) := by kernel_rfl
theorem tF283 : tyF Try.prog 283 = some ([.nil, .im 0 (.sc (.int .i64 0)), .im 0 (.sc (.int .u64 0))], [some 1, none, none], true, 3) := by kernel_rfl
theorem tF3 : tyF Try.prog 3 = some ([.im 0 (.sc (.int .i64 0))], [none], false, 1) := by kernel_rfl
theorem tF4 : tyF Try.prog 4 = some ([.im 0 (.sc (.bool false))], [none], false, 1) := by kernel_rfl
theorem tF5 : tyF Try.prog 5 = some ([.im 0 (.sc (.int .u8 0))], [none], false, 1) := by kernel_rfl
theorem tF81 : tyF Try.prog 81 = some ([.nil], [some 4], false, 1) := by kernel_rfl
theorem tF9 : tyF Try.prog 9 = some ([.im 0 (.sc (.string ⟨#[]⟩))], [none], false, 1) := by kernel_rfl
theorem uF2 : Try.prog.underlying 2 = some (.int .i64) := by kernel_rfl
theorem uF216 : Try.prog.underlying 216 = some (.array 4 2) := by kernel_rfl
theorem uF22 : Try.prog.underlying 22 = some (.slice 5) := by kernel_rfl
theorem uF27 : Try.prog.underlying 27 = some (.slice 2) := by kernel_rfl
theorem uF274 : Try.prog.underlying 274 = some (.slice 279) := by kernel_rfl
theorem uF281 : Try.prog.underlying 281 = some (.int .u64) := by kernel_rfl
theorem uF296 : Try.prog.underlying 296 = some (.slice 9) := by kernel_rfl
theorem uF3 : Try.prog.underlying 3 = some (.int .i64) := by kernel_rfl
theorem uF364 : Try.prog.underlying 364 = some (.int .u64) := by kernel_rfl
theorem uF5 : Try.prog.underlying 5 = some (.int .u8) := by kernel_rfl
theorem uF81 : Try.prog.underlying 81 = some (.slice 209) := by kernel_rfl
theorem uF9 : Try.prog.underlying 9 = some .string := by kernel_rfl
theorem zF2 : (Try.prog.info? 2).map (·.size) = some 1 := by kernel_rfl

theorem L_laws_b10Long {code_0 : (List Int)} {r : Bool} (h : laws_b10Long code_0 = some r) : FL Try.prog cfg 14 [.im 2 false [.row 1 (List.map (eK .u8) code_0)]] = some ([(false, [.im 0 (.sc (.bool r))])], []) := by
  unfold laws_b10Long at h
  refine FL_goS (A := [(0, .v false [.im 2 (.row 1 (List.map (eK .u8) code_0))])]) (B := [(0, none)]) (nt := 6) rfl rfl Try.func14 rfl rfl rfl rfl ?_
  refine Go.seq ?_
  refine Go.r0 c14 rfl rfl (sq z14 (oAsI rfl rfl) <| nl) ?_
  refine Unw.seq ?_
  refine Go.seq ?_
  refine Go.r0 c14 rfl rfl (sq z14 (oMv rfl rfl) <| sq z14 (oLnI rfl rfl uF22 rfl) <| sq z14 (oBi rfl rfl rfl rfl) <| sq z14 (oAsI rfl rfl) <| nl) ?_
  refine Unw.seq ?_
  refine Go.ret (Unw.ret ?_)
  cases h
  exact Fin_ret (fin_of rfl rF14 rfl (by kernel_rfl))
theorem L_spec_l00From {code_0 : (List Int)} {r : S_l00Src} (h : spec_l00From code_0 = some r) : FL Try.prog cfg 85 [.im 2 false [.row 1 (List.map (eK .u8) code_0)]] = some ([(false, [.pt true [⟨.imm, 2, .row 1 (List.map (eK .u8) r.code)⟩, ⟨.imm, 0, .sc (.int .i64 r.at_)⟩, ⟨.imm, 0, .sc (.int .u64 r.seed)⟩]])], []) := by
  unfold spec_l00From at h
  refine FL_goS (A := [(0, .v false [.im 2 (.row 1 (List.map (eK .u8) code_0))])]) (B := [(0, none)]) (nt := 6) rfl rfl Try.func85 rfl rfl rfl rfl ?_
  refine Go.seq ?_
  refine Go.r0 c85 rfl rfl (sq z85 (oAsI rfl rfl) <| nl) ?_
  refine Unw.seq ?_
  refine Go.seq ?_
  refine Go.r0 c85 rfl rfl (sq z85 (oMv rfl rfl) <| sq z85 (oBu (cs := [.im 2 _, .im 0 _, .im 0 _]) rfl bF283 rfl) <| sq z85 (oBx rfl tF283 rfl (tkI (tkI (tkI tk0)))) <| sq z85 (oAsP rfl rfl) <| nl) ?_
  refine Unw.seq ?_
  refine Go.ret (Unw.ret ?_)
  cases h
  exact Fin_ret (fin_of rfl rF85 rfl (by kernel_rfl))
theorem L_spec_l00Src_next {s_0 : S_l00Src} {r : (Int × S_l00Src)} (h : spec_l00Src_next s_0 = some r) : FL Try.prog cfg 248 [.ptr true [(.imm, .row 1 (List.map (eK .u8) s_0.code)), (.imm, .sc (.int .i64 s_0.at_)), (.imm, .sc (.int .u64 s_0.seed))]] = some ([(false, [.im 0 (.sc (.int .i64 r.1))])], [.ptr true [(.imm, .row 1 (List.map (eK .u8) r.2.code)), (.imm, .sc (.int .i64 r.2.at_)), (.imm, .sc (.int .u64 r.2.seed))]]) := by
  unfold spec_l00Src_next at h
  refine FL_goS (A := [(0, .v false [.mp 0 0 0])]) (B := [(0, some ⟨0, 0, true, true, false, true, [⟨.imm, 0, 1, .row 1 (List.map (eK .u8) s_0.code)⟩, ⟨.imm, 0, 0, .sc (.int .i64 s_0.at_)⟩, ⟨.imm, 0, 0, .sc (.int .u64 s_0.seed)⟩]⟩)]) (nt := 62) rfl rfl Try.func248 rfl rfl rfl rfl ?_
  refine Go.seq ?_
  refine Go.r0 c248 rfl rfl (sq z248 (oAsI rfl rfl) <| nl) ?_
  refine Unw.seq ?_
  refine Go.seq ?_
  refine Go.r0 c248 rfl rfl (sq z248 (oAsI rfl rfl) <| nl) ?_
  refine Unw.seq ?_
  refine Go.seq ?_
  refine Go.seq ?_
  refine Go.dr c248 rfl rfl rfl rfl (mk [(0, .v false [.mp 0 0 0]), (3, iv 0), (13, bv (decide (s_0.at_ < (s_0.code.length : Int))))] [(0, some ⟨0, 0, true, true, false, true, [⟨.imm, 0, 1, .row 1 (List.map (eK .u8) s_0.code)⟩, ⟨.imm, 0, 0, .sc (.int .i64 s_0.at_)⟩, ⟨.imm, 0, 0, .sc (.int .u64 s_0.seed)⟩]⟩)]) (sT rfl (dN z248 rfl (oMv rfl rfl)) <| sT rfl (dN z248 rfl (oNl rfl rfl rfl)) <| sT rfl (dN z248 rfl (oFA (r' := .mp 0 0 1) rfl fF283_1 rfl rfl)) <| sT rfl (dN z248 rfl (oLd (cs := [.im 0 _]) rfl tF3 rfl rfl)) <| sT rfl (dN z248 rfl (oMv rfl rfl)) <| sT rfl (dN z248 rfl (oNl rfl rfl rfl)) <| sT rfl (dN z248 rfl (oFA (r' := .mp 0 0 0) rfl fF283_0 rfl rfl)) <| sT rfl (dN z248 rfl (oLd (cs := [.im 1 _]) rfl tF22 rfl rfl)) <| sT rfl (dN z248 rfl (oLnI rfl rfl uF22 rfl)) <| sT rfl (dN z248 rfl (oBi rfl rfl rfl rfl)) <| sD (by kernel_rfl)) ?_
  refine Unw.seq ?_
  refine Go.join (fun st => ∃ b_3_r4, spec_l00Src_next_k4 s_0 b_3_r4 = some r ∧ st.norm ([0, 3], [0]) = mk [(0, .v false [.mp 0 0 0]), (3, iv b_3_r4)] [(0, some ⟨0, 0, true, true, false, true, [⟨.imm, 0, 1, .row 1 (List.map (eK .u8) s_0.code)⟩, ⟨.imm, 0, 0, .sc (.int .i64 s_0.at_)⟩, ⟨.imm, 0, 0, .sc (.int .u64 s_0.seed)⟩]⟩)]) ?_ ?_
  · rintro st ⟨b_3_r4, h, hst⟩
    unfold spec_l00Src_next_k4 at h
    refine Unw.seq ?_
    refine Go.seq ?_
    refine Go.r1 c248 rfl rfl hst (sq z248 (oMv rfl rfl) <| sq z248 (oNl rfl rfl rfl) <| sq z248 (oFA (r' := .mp 0 0 1) rfl fF283_1 rfl rfl) <| sq z248 (oLd (cs := [.im 0 _]) rfl tF3 rfl rfl) <| sq z248 (oBi rfl rfl rfl rfl) <| sq z248 (oNl rfl rfl rfl) <| sq z248 (oFA (r' := .mp 0 0 1) rfl fF283_1 rfl rfl) <| sq z248 (oSt tF3 rfl rfl rfl (tkI tk0) rfl rfl rfl) <| nl) ?_
    refine Unw.seq ?_
    refine Go.seq ?_
    refine Go.r1 c248 rfl rfl (st1 := mk [(0, .v false [.mp 0 0 0]), (3, iv b_3_r4)] [(0, some ⟨0, 0, true, true, false, true, [⟨.imm, 0, 1, .row 1 (List.map (eK .u8) s_0.code)⟩, ⟨.imm, 0, 0, .sc (.int .i64 (w64 (s_0.at_ + 1)))⟩, ⟨.imm, 0, 0, .sc (.int .u64 s_0.seed)⟩]⟩)]) (by kernel_rfl) (sq z248 (oMv rfl rfl) <| sq z248 (oMv rfl rfl) <| sq z248 (oNl rfl rfl rfl) <| sq z248 (oFA (r' := .mp 0 0 2) rfl fF283_2 rfl rfl) <| sq z248 (oLd (cs := [.im 0 _]) rfl tF281 rfl rfl) <| sq z248 (oBi rfl rfl rfl rfl) <| sq z248 (oMv rfl rfl) <| sq z248 (oCvI rfl uF3 uF281 rfl) <| sq z248 (oBi rfl rfl rfl rfl) <| sq z248 (oBi rfl rfl rfl rfl) <| sq z248 (oNl rfl rfl rfl) <| sq z248 (oFA (r' := .mp 0 0 2) rfl fF283_2 rfl rfl) <| sq z248 (oSt tF281 rfl rfl rfl (tkI tk0) rfl rfl rfl) <| nl) ?_
    refine Unw.seq ?_
    refine Go.seq ?_
    refine Go.seq ?_
    refine Go.dr c248 rfl rfl rfl (st1 := mk [(0, .v false [.mp 0 0 0]), (3, iv b_3_r4)] [(0, some ⟨0, 0, true, true, false, true, [⟨.imm, 0, 1, .row 1 (List.map (eK .u8) s_0.code)⟩, ⟨.imm, 0, 0, .sc (.int .i64 (w64 (s_0.at_ + 1)))⟩, ⟨.imm, 0, 0, .sc (.int .u64 (IntKind.wrap .u64 ((IntKind.wrap .u64 ((IntKind.wrap .u64 (s_0.seed * 6364136223846793005)) + (IntKind.wrap .u64 (b_3_r4)))) + 1442695040888963407)))⟩]⟩)]) (by kernel_rfl) (mk [(0, .v false [.mp 0 0 0]), (3, iv b_3_r4), (53, bv (decide ((w64 (s_0.at_ + 1)) ≤ (s_0.code.length : Int))))] [(0, some ⟨0, 0, true, true, false, true, [⟨.imm, 0, 1, .row 1 (List.map (eK .u8) s_0.code)⟩, ⟨.imm, 0, 0, .sc (.int .i64 (w64 (s_0.at_ + 1)))⟩, ⟨.imm, 0, 0, .sc (.int .u64 (IntKind.wrap .u64 ((IntKind.wrap .u64 ((IntKind.wrap .u64 (s_0.seed * 6364136223846793005)) + (IntKind.wrap .u64 (b_3_r4)))) + 1442695040888963407)))⟩]⟩)]) (sT rfl (dN z248 rfl (oMv rfl rfl)) <| sT rfl (dN z248 rfl (oNl rfl rfl rfl)) <| sT rfl (dN z248 rfl (oFA (r' := .mp 0 0 1) rfl fF283_1 rfl rfl)) <| sT rfl (dN z248 rfl (oLd (cs := [.im 0 _]) rfl tF3 rfl rfl)) <| sT rfl (dN z248 rfl (oMv rfl rfl)) <| sT rfl (dN z248 rfl (oNl rfl rfl rfl)) <| sT rfl (dN z248 rfl (oFA (r' := .mp 0 0 0) rfl fF283_0 rfl rfl)) <| sT rfl (dN z248 rfl (oLd (cs := [.im 1 _]) rfl tF22 rfl rfl)) <| sT rfl (dN z248 rfl (oLnI rfl rfl uF22 rfl)) <| sT rfl (dN z248 rfl (oBi rfl rfl rfl rfl)) <| sD (by kernel_rfl)) ?_
    refine Unw.seq ?_
    by_cases hc2 : (w64 (s_0.at_ + 1)) ≤ (s_0.code.length : Int)
    · rw [if_pos hc2] at h
      refine Go.condT rfl (iDec.2 hc2) ?_
      refine Go.seq ?_
      refine Go.r0 c248 rfl rfl (sq z248 (oMv rfl rfl) <| sq z248 (oAsI rfl rfl) <| nl) ?_
      refine Unw.seq ?_
      refine Go.ret (Unw.ret ?_)
      cases h
      exact Fin_ret (fin_of rfl rF248 rfl (by kernel_rfl))
    · rw [if_neg hc2] at h
      refine Go.condF rfl (byF iDec hc2) ?_
      refine Go.skip ?_
      refine Unw.seq ?_
      refine Go.seq ?_
      obtain ⟨x59, hx59, h⟩ := bs h
      refine Go.r0 c248 rfl rfl (sq z248 (oMv rfl rfl) <| sq z248 (oNl rfl rfl rfl) <| sq z248 (oFA (r' := .mp 0 0 2) rfl fF283_2 rfl rfl) <| sq z248 (oLd (cs := [.im 0 _]) rfl tF281 rfl rfl) <| sq z248 (oShr rfl hx59 rfl rfl) <| sq z248 (oBi rfl rfl rfl rfl) <| sq z248 (oCvI rfl uF281 uF2 rfl) <| sq z248 (oAsI rfl rfl) <| nl) ?_
      refine Unw.seq ?_
      refine Go.ret (Unw.ret ?_)
      cases h
      exact Fin_ret (fin_of rfl rF248 rfl (by kernel_rfl))
  · intro K3
    by_cases hc4 : s_0.at_ < (s_0.code.length : Int)
    · rw [if_pos hc4] at h
      refine Go.condT rfl (iDec.2 hc4) ?_
      obtain ⟨x22, hx22, h⟩ := bs h
      refine Go.dr c248 rfl rfl rfl rfl (mk [(0, .v false [.mp 0 0 0]), (3, iv (w64 (x22)))] [(0, some ⟨0, 0, true, true, false, true, [⟨.imm, 0, 1, .row 1 (List.map (eK .u8) s_0.code)⟩, ⟨.imm, 0, 0, .sc (.int .i64 s_0.at_)⟩, ⟨.imm, 0, 0, .sc (.int .u64 s_0.seed)⟩]⟩)]) (sT rfl (dN z248 rfl (oMv rfl rfl)) <| sT rfl (dN z248 rfl (oNl rfl rfl rfl)) <| sT rfl (dN z248 rfl (oFA (r' := .mp 0 0 0) rfl fF283_0 rfl rfl)) <| sT rfl (dN z248 rfl (oLd (cs := [.im 1 _]) rfl tF22 rfl rfl)) <| sT rfl (dN z248 rfl (oMv rfl rfl)) <| sT rfl (dN z248 rfl (oNl rfl rfl rfl)) <| sT rfl (dN z248 rfl (oFA (r' := .mp 0 0 1) rfl fF283_1 rfl rfl)) <| sT rfl (dN z248 rfl (oLd (cs := [.im 0 _]) rfl tF3 rfl rfl)) <| sT rfl (dN z248 rfl (oIAI rfl hx22 sF22 rfl rfl)) <| sT rfl (dN z248 rfl (oLd (cs := [.im 1 _]) rfl tF5 rfl rfl)) <| sS (dN z248 rfl (oCvI rfl uF5 uF3 rfl)) trivial (sS (dN z248 rfl (oAsI rfl rfl)) trivial (sD (by kernel_rfl)))) ?_
      exact K3 _ ⟨(w64 (x22)), h, (by kernel_rfl)⟩
    · rw [if_neg hc4] at h
      refine Go.condF rfl (byF iDec hc4) ?_
      refine Go.skip ?_
      exact K3 _ ⟨0, h, (by kernel_rfl)⟩
theorem L_spec_l00Src_pick {s_0 : S_l00Src} {n_1 : Int} {r : (Int × S_l00Src)} (h : spec_l00Src_pick s_0 n_1 = some r) : FL Try.prog cfg 184 [.ptr true [(.imm, .row 1 (List.map (eK .u8) s_0.code)), (.imm, .sc (.int .i64 s_0.at_)), (.imm, .sc (.int .u64 s_0.seed))], .im 2 false [.sc (.int .i64 n_1)]] = some ([(false, [.im 0 (.sc (.int .i64 r.1))])], [.ptr true [(.imm, .row 1 (List.map (eK .u8) r.2.code)), (.imm, .sc (.int .i64 r.2.at_)), (.imm, .sc (.int .u64 r.2.seed))]]) := by
  unfold spec_l00Src_pick at h
  refine FL_goS (A := [(0, .v false [.mp 0 0 0]), (1, .v false [.im 2 (.sc (.int .i64 n_1))])]) (B := [(0, some ⟨0, 0, true, true, false, true, [⟨.imm, 0, 1, .row 1 (List.map (eK .u8) s_0.code)⟩, ⟨.imm, 0, 0, .sc (.int .i64 s_0.at_)⟩, ⟨.imm, 0, 0, .sc (.int .u64 s_0.seed)⟩]⟩), (1, none)]) (nt := 20) rfl rfl Try.func184 rfl rfl rfl rfl ?_
  refine Go.seq ?_
  refine Go.r0 c184 rfl rfl (sq z184 (oAsI rfl rfl) <| nl) ?_
  refine Unw.seq ?_
  refine Go.seq ?_
  refine Go.seq ?_
  refine Go.r0 c184 rfl rfl (sq z184 (oMv rfl rfl) <| sq z184 (oBi rfl rfl rfl rfl) <| nl) ?_
  refine Unw.seq ?_
  by_cases hc1 : n_1 ≤ 1
  · rw [if_pos hc1] at h
    refine Go.condT rfl (iDec.2 hc1) ?_
    refine Go.seq ?_
    refine Go.r0 c184 rfl rfl (sq z184 (oAsI rfl rfl) <| nl) ?_
    refine Unw.seq ?_
    refine Go.ret (Unw.ret ?_)
    cases h
    exact Fin_ret (fin_of rfl rF184 rfl (by kernel_rfl))
  · rw [if_neg hc1] at h
    refine Go.condF rfl (byF iDec hc1) ?_
    refine Go.skip ?_
    refine Unw.seq ?_
    refine Go.seq ?_
    obtain ⟨x9, hx9, h⟩ := bs h
    refine Go.r0 c184 rfl rfl (sq z184 (oMv rfl rfl) <| sq z184 (oCa (xs := [.v false [.mp 0 0 0]]) (vs := [(false, [.im 0 _])]) (v := .v false [.im 0 _]) (L_spec_l00Src_next hx9) (.inl rfl) rfl kF248_121 rfl (ppP rfl rfl rfl pp0) rfl rfl (pbP rfl rfl pb0) rfl rfl rfl) <| sq z184 (oAsI rfl rfl) <| nl) ?_
    refine Unw.seq ?_
    refine Go.seq ?_
    refine Go.seq ?_
    refine Go.r1 c184 rfl rfl (st1 := mk [(0, .v false [.mp 0 0 0]), (1, iv n_1), (5, iv x9.1)] [(0, some ⟨0, 0, true, true, false, true, [⟨.imm, 0, 1, .row 1 (List.map (eK .u8) x9.2.code)⟩, ⟨.imm, 0, 0, .sc (.int .i64 x9.2.at_)⟩, ⟨.imm, 0, 0, .sc (.int .u64 x9.2.seed)⟩]⟩)]) (by kernel_rfl) (sq z184 (oMv rfl rfl) <| sq z184 (oBi rfl rfl rfl rfl) <| nl) ?_
    refine Unw.seq ?_
    refine Go.join (fun st => ∃ x_5_r6, ∃ s_o0_0_r6, ∃ s_o0_1_r6, ∃ s_o0_2_r6, spec_l00Src_pick_k6 n_1 x_5_r6 s_o0_0_r6 s_o0_1_r6 s_o0_2_r6 = some r ∧ st.norm ([1, 5], [0]) = mk [(1, iv n_1), (5, iv x_5_r6)] [(0, some ⟨0, 0, true, true, false, true, [⟨.imm, 0, 1, .row 1 (List.map (eK .u8) s_o0_0_r6)⟩, ⟨.imm, 0, 0, .sc (.int .i64 s_o0_1_r6)⟩, ⟨.imm, 0, 0, .sc (.int .u64 s_o0_2_r6)⟩]⟩)]) ?_ ?_
    · rintro st ⟨x_5_r6, s_o0_0_r6, s_o0_1_r6, s_o0_2_r6, h, hst⟩
      unfold spec_l00Src_pick_k6 at h
      refine Unw.seq ?_
      refine Go.seq ?_
      obtain ⟨x19, hx19, h⟩ := bs h
      refine Go.r1 c184 rfl rfl hst (sq z184 (oMv rfl rfl) <| sq z184 (oMv rfl rfl) <| sq z184 (oRem rfl hx19 rfl rfl) <| sq z184 (oAsI rfl rfl) <| nl) ?_
      refine Unw.seq ?_
      refine Go.ret (Unw.ret ?_)
      cases h
      exact Fin_ret (fin_of rfl rF184 rfl (by kernel_rfl))
    · intro K3
      by_cases hc4 : n_1 > 200
      · rw [if_pos hc4] at h
        refine Go.condT rfl (iDec.2 hc4) ?_
        obtain ⟨x15, hx15, h⟩ := bs h
        refine Go.r0 c184 rfl rfl (sq z184 (oMv rfl rfl) <| sq z184 (oBi rfl rfl rfl rfl) <| sq z184 (oMv rfl rfl) <| sq z184 (oCa (xs := [.v false [.mp 0 0 0]]) (vs := [(false, [.im 0 _])]) (v := .v false [.im 0 _]) (L_spec_l00Src_next hx15) (.inl rfl) rfl kF248_121 rfl (ppP rfl rfl rfl pp0) rfl rfl (pbP rfl rfl pb0) rfl rfl rfl) <| sq z184 (oBi rfl rfl rfl rfl) <| sq z184 (oAsI rfl rfl) <| nl) ?_
        exact K3 _ ⟨(w64 ((w64 (x9.1 * 256)) + x15.1)), x15.2.code, x15.2.at_, x15.2.seed, h, (by kernel_rfl)⟩
      · rw [if_neg hc4] at h
        refine Go.condF rfl (byF iDec hc4) ?_
        refine Go.skip ?_
        exact K3 _ ⟨x9.1, x9.2.code, x9.2.at_, x9.2.seed, h, (by kernel_rfl)⟩
theorem L_spec_l00Src_one {s_0 : S_l00Src} {n_1 : Int} {r : (Bool × S_l00Src)} (h : spec_l00Src_one s_0 n_1 = some r) : FL Try.prog cfg 183 [.ptr true [(.imm, .row 1 (List.map (eK .u8) s_0.code)), (.imm, .sc (.int .i64 s_0.at_)), (.imm, .sc (.int .u64 s_0.seed))], .im 2 false [.sc (.int .i64 n_1)]] = some ([(false, [.im 0 (.sc (.bool r.1))])], [.ptr true [(.imm, .row 1 (List.map (eK .u8) r.2.code)), (.imm, .sc (.int .i64 r.2.at_)), (.imm, .sc (.int .u64 r.2.seed))]]) := by
  unfold spec_l00Src_one at h
  refine FL_goS (A := [(0, .v false [.mp 0 0 0]), (1, .v false [.im 2 (.sc (.int .i64 n_1))])]) (B := [(0, some ⟨0, 0, true, true, false, true, [⟨.imm, 0, 1, .row 1 (List.map (eK .u8) s_0.code)⟩, ⟨.imm, 0, 0, .sc (.int .i64 s_0.at_)⟩, ⟨.imm, 0, 0, .sc (.int .u64 s_0.seed)⟩]⟩), (1, none)]) (nt := 9) rfl rfl Try.func183 rfl rfl rfl rfl ?_
  refine Go.seq ?_
  refine Go.r0 c183 rfl rfl (sq z183 (oAsI rfl rfl) <| nl) ?_
  refine Unw.seq ?_
  refine Go.seq ?_
  obtain ⟨x7, hx7, h⟩ := bs h
  refine Go.r0 c183 rfl rfl (sq z183 (oMv rfl rfl) <| sq z183 (oMv rfl rfl) <| sq z183 (oCa (xs := [.v false [.mp 0 0 0], .v false [.im 2 _]]) (vs := [(false, [.im 0 _])]) (v := .v false [.im 0 _]) (L_spec_l00Src_pick hx7) (.inl rfl) rfl kF184_121_2 rfl (ppP rfl rfl rfl (ppC rfl pp0)) rfl rfl (pbP rfl rfl pb0) rfl rfl rfl) <| sq z183 (oBi rfl rfl rfl rfl) <| sq z183 (oAsI rfl rfl) <| nl) ?_
  refine Unw.seq ?_
  refine Go.ret (Unw.ret ?_)
  cases h
  exact Fin_ret (fin_of rfl rF183 rfl (by kernel_rfl))
theorem L_spec_l00Src_among {s_0 : S_l00Src} {list_1 : (List Int)} {r : (Int × S_l00Src)} (h : spec_l00Src_among s_0 list_1 = some r) : FL Try.prog cfg 99 [.ptr true [(.imm, .row 1 (List.map (eK .u8) s_0.code)), (.imm, .sc (.int .i64 s_0.at_)), (.imm, .sc (.int .u64 s_0.seed))], .im 2 false [.row 1 (List.map eI list_1)]] = some ([(false, [.im 0 (.sc (.int .i64 r.1))])], [.ptr true [(.imm, .row 1 (List.map (eK .u8) r.2.code)), (.imm, .sc (.int .i64 r.2.at_)), (.imm, .sc (.int .u64 r.2.seed))]]) := by
  unfold spec_l00Src_among at h
  refine FL_goS (A := [(0, .v false [.mp 0 0 0]), (1, .v false [.im 2 (.row 1 (List.map eI list_1))])]) (B := [(0, some ⟨0, 0, true, true, false, true, [⟨.imm, 0, 1, .row 1 (List.map (eK .u8) s_0.code)⟩, ⟨.imm, 0, 0, .sc (.int .i64 s_0.at_)⟩, ⟨.imm, 0, 0, .sc (.int .u64 s_0.seed)⟩]⟩), (1, none)]) (nt := 12) rfl rfl Try.func99 rfl rfl rfl rfl ?_
  refine Go.seq ?_
  refine Go.r0 c99 rfl rfl (sq z99 (oAsI rfl rfl) <| nl) ?_
  refine Unw.seq ?_
  refine Go.seq ?_
  obtain ⟨x9, hx9, h⟩ := bs h
  obtain ⟨x10, hx10, h⟩ := bs h
  refine Go.r0 c99 rfl rfl (sq z99 (oMv rfl rfl) <| sq z99 (oMv rfl rfl) <| sq z99 (oMv rfl rfl) <| sq z99 (oLnI rfl rfl uF27 rfl) <| sq z99 (oCa (xs := [.v false [.mp 0 0 0], .v false [.im 0 _]]) (vs := [(false, [.im 0 _])]) (v := .v false [.im 0 _]) (L_spec_l00Src_pick hx9) (.inl rfl) rfl kF184_121_2 rfl (ppP rfl rfl rfl (ppC rfl pp0)) rfl rfl (pbP rfl rfl pb0) rfl rfl rfl) <| sq z99 (oIAI rfl hx10 sF27 rfl rfl) <| sq z99 (oLd (cs := [.im 2 _]) rfl tF2 rfl rfl) <| sq z99 (oAsI rfl rfl) <| nl) ?_
  refine Unw.seq ?_
  refine Go.ret (Unw.ret ?_)
  cases h
  exact Fin_ret (fin_of rfl rF99 rfl (by kernel_rfl))
theorem L_spec_l24DrawOne {s_0 : S_l00Src} {name_1 : ByteArray} {r : (S_Bond × S_l00Src)} (h : spec_l24DrawOne s_0 name_1 = some r) : FL Try.prog cfg 243 [.ptr true [(.imm, .row 1 (List.map (eK .u8) s_0.code)), (.imm, .sc (.int .i64 s_0.at_)), (.imm, .sc (.int .u64 s_0.seed))], .im 2 false [.sc (.string name_1)]] = some ([(true, [.im 0 (.sc (.string r.1.Name)), .im 0 (.sc (.int .i64 r.1.Spread)), .im 0 (.sc (.int .i64 r.1.Open)), .im 0 (.sc (.int .i64 r.1.Press))])], [.ptr true [(.imm, .row 1 (List.map (eK .u8) r.2.code)), (.imm, .sc (.int .i64 r.2.at_)), (.imm, .sc (.int .u64 r.2.seed))]]) := by
  unfold spec_l24DrawOne at h
  refine FL_goS (A := [(0, .v false [.mp 0 0 0]), (1, .v false [.im 2 (.sc (.string name_1))])]) (B := [(0, some ⟨0, 0, true, true, false, true, [⟨.imm, 0, 1, .row 1 (List.map (eK .u8) s_0.code)⟩, ⟨.imm, 0, 0, .sc (.int .i64 s_0.at_)⟩, ⟨.imm, 0, 0, .sc (.int .u64 s_0.seed)⟩]⟩), (1, none)]) (nt := 23) rfl rfl Try.func243 rfl rfl rfl rfl ?_
  refine Go.seq ?_
  refine Go.r0 c243 rfl rfl (sq z243 (oAl rfl tF209 (tkI (tkI (tkI (tkI tk0))))) <| nl) ?_
  refine Unw.seq ?_
  refine Go.seq ?_
  obtain ⟨x8, hx8, h⟩ := bs h
  refine Go.r0 c243 rfl rfl (sq z243 (oMv rfl rfl) <| sq z243 (oMv rfl rfl) <| sq z243 (oCa (xs := [.v false [.mp 0 0 0], .v false [.im 0 _]]) (vs := [(false, [.im 0 _])]) (v := .v false [.im 0 _]) (L_spec_l00Src_pick hx8) (.inl rfl) rfl kF184_121_2 rfl (ppP rfl rfl rfl (ppC rfl pp0)) rfl rfl (pbP rfl rfl pb0) rfl rfl rfl) <| sq z243 (oBi rfl rfl rfl rfl) <| sq z243 (oBu (cs := [.im 2 _, .im 0 _, .im 0 _, .im 0 _]) rfl bF209 rfl) <| sq z243 (oAl rfl tF209 (tkI (tkI (tkI (tkI tk0))))) <| sq z243 (oSt tF209 rfl rfl rfl (tkI (tkI (tkI (tkI tk0)))) rfl rfl rfl) <| nl) ?_
  refine Unw.seq ?_
  refine Go.seq ?_
  obtain ⟨x15, hx15, h⟩ := bs h
  refine Go.dr c243 rfl rfl rfl (st1 := mk [(0, .v false [.mp 0 0 0]), (4, .v false [.mp 4 0 0]), (5, .v false [.mp 5 0 0])] [(0, some ⟨0, 0, true, true, false, true, [⟨.imm, 0, 1, .row 1 (List.map (eK .u8) x8.2.code)⟩, ⟨.imm, 0, 0, .sc (.int .i64 x8.2.at_)⟩, ⟨.imm, 0, 0, .sc (.int .u64 x8.2.seed)⟩]⟩), (4, some ⟨0, 0, false, true, false, true, [⟨.imm, 0, 0, .sc (.string (⟨#[]⟩ : ByteArray))⟩, ⟨.imm, 0, 0, .sc (.int .i64 0)⟩, ⟨.imm, 0, 0, .sc (.int .i64 0)⟩, ⟨.imm, 0, 0, .sc (.int .i64 0)⟩]⟩), (5, some ⟨0, 0, false, true, false, true, [⟨.imm, 0, 0, .sc (.string name_1)⟩, ⟨.imm, 0, 0, .sc (.int .i64 (w64 (1 + x8.1)))⟩, ⟨.imm, 0, 0, .sc (.int .i64 0)⟩, ⟨.imm, 0, 0, .sc (.int .i64 0)⟩]⟩)]) (by kernel_rfl) (mk [(0, .v false [.mp 0 0 0]), (4, .v false [.mp 4 0 0]), (5, .v false [.mp 5 0 0])] [(0, some ⟨0, 0, true, true, false, true, [⟨.imm, 0, 1, .row 1 (List.map (eK .u8) x15.2.code)⟩, ⟨.imm, 0, 0, .sc (.int .i64 x15.2.at_)⟩, ⟨.imm, 0, 0, .sc (.int .u64 x15.2.seed)⟩]⟩), (4, some ⟨0, 0, false, true, false, true, [⟨.imm, 0, 0, .sc (.string (⟨#[]⟩ : ByteArray))⟩, ⟨.imm, 0, 0, .sc (.int .i64 0)⟩, ⟨.imm, 0, 0, .sc (.int .i64 0)⟩, ⟨.imm, 0, 0, .sc (.int .i64 0)⟩]⟩), (5, some ⟨0, 0, false, true, false, true, [⟨.imm, 0, 0, .sc (.string name_1)⟩, ⟨.imm, 0, 0, .sc (.int .i64 (w64 (1 + x8.1)))⟩, ⟨.imm, 0, 0, .sc (.int .i64 (w64 ((w64 (1 + x8.1)) + x15.1)))⟩, ⟨.imm, 0, 0, .sc (.int .i64 0)⟩]⟩)]) (sT rfl (dN z243 rfl (oMv rfl rfl)) <| sK (O := [5]) rfl rfl rfl (dN z243 rfl (oFA (r' := .mp 5 0 1) rfl fF209_1 rfl rfl)) <| sK (O := [5]) rfl rfl rfl (dN z243 rfl (oLd (cs := [.im 0 _]) rfl tF2 rfl rfl)) <| sS (dN z243 rfl (oBS (es := List.map eI ([0, 5, 20, 100] : List Int)) rfl sF27 rfl (ptC rfl (fxI fx0) rfl (ptC rfl (fxI fx0) rfl (ptC rfl (fxI fx0) rfl (ptC rfl (fxI fx0) rfl pt0)))) (flat0 rfl fun _ => rfl))) (kY ⟨rfl, trivial⟩ (kY ⟨rfl, trivial⟩ trivial)) (sS (dN z243 rfl (oCa (xs := [.v false [.mp 0 0 0], .v false [.own 14 0 0]]) (vs := [(false, [.im 0 _])]) (v := .v false [.im 0 _]) (L_spec_l00Src_among hx15) (.inl rfl) rfl kF99_121_27 rfl (ppP rfl rfl rfl (ppC rfl pp0)) rfl rfl (pbP rfl rfl pb0) rfl rfl rfl)) (kY ⟨rfl, trivial⟩ (kY ⟨rfl, trivial⟩ trivial)) (sT rfl (dN z243 rfl (oBi rfl rfl rfl rfl)) <| sT rfl (dN z243 rfl (oFA (r' := .mp 5 0 2) rfl fF209_2 rfl rfl)) <| sS (dN z243 rfl (oSt tF2 rfl rfl rfl (tkI tk0) rfl rfl rfl)) (kN rfl (kN rfl trivial)) (sD (by kernel_rfl))))) ?_
  refine Unw.seq ?_
  refine Go.seq ?_
  obtain ⟨x20, hx20, h⟩ := bs h
  refine Go.r0 c243 rfl rfl (sq z243 (oMv rfl rfl) <| sq z243 (oBS (es := List.map eI ([10, 30, 60, 45, 1, 90] : List Int)) rfl sF27 rfl (ptC rfl (fxI fx0) rfl (ptC rfl (fxI fx0) rfl (ptC rfl (fxI fx0) rfl (ptC rfl (fxI fx0) rfl (ptC rfl (fxI fx0) rfl (ptC rfl (fxI fx0) rfl pt0)))))) (flat0 rfl fun _ => rfl)) <| sq z243 (oCa (xs := [.v false [.mp 0 0 0], .v false [.own 19 0 0]]) (vs := [(false, [.im 0 _])]) (v := .v false [.im 0 _]) (L_spec_l00Src_among hx20) (.inl rfl) rfl kF99_121_27 rfl (ppP rfl rfl rfl (ppC rfl pp0)) rfl rfl (pbP rfl rfl pb0) rfl rfl rfl) <| sq z243 (oFA (r' := .mp 5 0 3) rfl fF209_3 rfl rfl) <| sq z243 (oSt tF2 rfl rfl rfl (tkI tk0) rfl rfl rfl) <| nl) ?_
  refine Unw.seq ?_
  refine Go.seq ?_
  refine Go.r1 c243 rfl rfl (st1 := mk [(4, .v false [.mp 4 0 0]), (5, .v false [.mp 5 0 0])] [(0, some ⟨0, 0, true, true, false, true, [⟨.imm, 0, 1, .row 1 (List.map (eK .u8) x20.2.code)⟩, ⟨.imm, 0, 0, .sc (.int .i64 x20.2.at_)⟩, ⟨.imm, 0, 0, .sc (.int .u64 x20.2.seed)⟩]⟩), (4, some ⟨0, 0, false, true, false, true, [⟨.imm, 0, 0, .sc (.string (⟨#[]⟩ : ByteArray))⟩, ⟨.imm, 0, 0, .sc (.int .i64 0)⟩, ⟨.imm, 0, 0, .sc (.int .i64 0)⟩, ⟨.imm, 0, 0, .sc (.int .i64 0)⟩]⟩), (5, some ⟨0, 0, false, true, false, true, [⟨.imm, 0, 0, .sc (.string name_1)⟩, ⟨.imm, 0, 0, .sc (.int .i64 (w64 (1 + x8.1)))⟩, ⟨.imm, 0, 0, .sc (.int .i64 (w64 ((w64 (1 + x8.1)) + x15.1)))⟩, ⟨.imm, 0, 0, .sc (.int .i64 x20.1)⟩]⟩)]) (by kernel_rfl) (sq z243 (oLd (cs := [.im 0 _, .im 0 _, .im 0 _, .im 0 _]) rfl tF209 rfl rfl) <| sq z243 (oSt tF209 rfl rfl rfl (tkI (tkI (tkI (tkI tk0)))) rfl rfl rfl) <| nl) ?_
  refine Unw.seq ?_
  refine Go.ret (Unw.ret ?_)
  cases h
  exact Fin_ret (fin_of rfl rF243 rfl (by kernel_rfl))
theorem L_spec_l00Src_text {s_0 : S_l00Src} {list_1 : (List ByteArray)} {r : (ByteArray × S_l00Src)} (h : spec_l00Src_text s_0 list_1 = some r) : FL Try.prog cfg 239 [.ptr true [(.imm, .row 1 (List.map (eK .u8) s_0.code)), (.imm, .sc (.int .i64 s_0.at_)), (.imm, .sc (.int .u64 s_0.seed))], .im 2 false [.row 1 (List.map eS list_1)]] = some ([(false, [.im 0 (.sc (.string r.1))])], [.ptr true [(.imm, .row 1 (List.map (eK .u8) r.2.code)), (.imm, .sc (.int .i64 r.2.at_)), (.imm, .sc (.int .u64 r.2.seed))]]) := by
  unfold spec_l00Src_text at h
  refine FL_goS (A := [(0, .v false [.mp 0 0 0]), (1, .v false [.im 2 (.row 1 (List.map eS list_1))])]) (B := [(0, some ⟨0, 0, true, true, false, true, [⟨.imm, 0, 1, .row 1 (List.map (eK .u8) s_0.code)⟩, ⟨.imm, 0, 0, .sc (.int .i64 s_0.at_)⟩, ⟨.imm, 0, 0, .sc (.int .u64 s_0.seed)⟩]⟩), (1, none)]) (nt := 12) rfl rfl Try.func239 rfl rfl rfl rfl ?_
  refine Go.seq ?_
  refine Go.r0 c239 rfl rfl (sq z239 (oAsI rfl rfl) <| nl) ?_
  refine Unw.seq ?_
  refine Go.seq ?_
  obtain ⟨x9, hx9, h⟩ := bs h
  obtain ⟨x10, hx10, h⟩ := bs h
  refine Go.r0 c239 rfl rfl (sq z239 (oMv rfl rfl) <| sq z239 (oMv rfl rfl) <| sq z239 (oMv rfl rfl) <| sq z239 (oLnI rfl rfl uF296 rfl) <| sq z239 (oCa (xs := [.v false [.mp 0 0 0], .v false [.im 0 _]]) (vs := [(false, [.im 0 _])]) (v := .v false [.im 0 _]) (L_spec_l00Src_pick hx9) (.inl rfl) rfl kF184_121_2 rfl (ppP rfl rfl rfl (ppC rfl pp0)) rfl rfl (pbP rfl rfl pb0) rfl rfl rfl) <| sq z239 (oIAI rfl hx10 sF296 rfl rfl) <| sq z239 (oLd (cs := [.im 2 _]) rfl tF9 rfl rfl) <| sq z239 (oAsI rfl rfl) <| nl) ?_
  refine Unw.seq ?_
  refine Go.ret (Unw.ret ?_)
  cases h
  exact Fin_ret (fin_of rfl rF239 rfl (by kernel_rfl))
theorem L_spec_l24Bend {s_0 : S_l00Src} {b_1 : S_Bond} {r : (S_Bond × S_l00Src)} (h : spec_l24Bend s_0 b_1 = some r) : FL Try.prog cfg 244 [.ptr true [(.imm, .row 1 (List.map (eK .u8) s_0.code)), (.imm, .sc (.int .i64 s_0.at_)), (.imm, .sc (.int .u64 s_0.seed))], .im 2 true [.sc (.string b_1.Name), .sc (.int .i64 b_1.Spread), .sc (.int .i64 b_1.Open), .sc (.int .i64 b_1.Press)]] = some ([(true, [.im 0 (.sc (.string r.1.Name)), .im 0 (.sc (.int .i64 r.1.Spread)), .im 0 (.sc (.int .i64 r.1.Open)), .im 0 (.sc (.int .i64 r.1.Press))])], [.ptr true [(.imm, .row 1 (List.map (eK .u8) r.2.code)), (.imm, .sc (.int .i64 r.2.at_)), (.imm, .sc (.int .u64 r.2.seed))]]) := by
  unfold spec_l24Bend at h
  refine FL_goS (A := [(0, .v false [.mp 0 0 0]), (1, .v true [.im 2 (.sc (.string b_1.Name)), .im 2 (.sc (.int .i64 b_1.Spread)), .im 2 (.sc (.int .i64 b_1.Open)), .im 2 (.sc (.int .i64 b_1.Press))])]) (B := [(0, some ⟨0, 0, true, true, false, true, [⟨.imm, 0, 1, .row 1 (List.map (eK .u8) s_0.code)⟩, ⟨.imm, 0, 0, .sc (.int .i64 s_0.at_)⟩, ⟨.imm, 0, 0, .sc (.int .u64 s_0.seed)⟩]⟩), (1, none)]) (nt := 35) rfl rfl Try.func244 rfl rfl rfl rfl ?_
  refine Go.seq ?_
  refine Go.r0 c244 rfl rfl (sq z244 (oBx rfl tF209 rfl (tkI (tkI (tkI (tkI tk0))))) <| sq z244 (oAl rfl tF209 (tkI (tkI (tkI (tkI tk0))))) <| nl) ?_
  refine Unw.seq ?_
  refine Go.seq ?_
  refine Go.seq ?_
  obtain ⟨x6, hx6, h⟩ := bs h
  refine Go.r0 c244 rfl rfl (sq z244 (oMv rfl rfl) <| sq z244 (oCa (xs := [.v false [.mp 0 0 0], .v false [.im 0 _]]) (vs := [(false, [.im 0 _])]) (v := .v false [.im 0 _]) (L_spec_l00Src_pick hx6) (.inl rfl) rfl kF184_121_2 rfl (ppP rfl rfl rfl (ppC rfl pp0)) rfl rfl (pbP rfl rfl pb0) rfl rfl rfl) <| nl) ?_
  refine Unw.seq ?_
  refine Go.join (fun st => ∃ s_o0_0_r10, ∃ s_o0_1_r10, ∃ s_o0_2_r10, ∃ b_o3_0_r10, ∃ b_o3_1_r10, ∃ b_o3_2_r10, ∃ b_o3_3_r10, spec_l24Bend_k10 s_o0_0_r10 s_o0_1_r10 s_o0_2_r10 b_o3_0_r10 b_o3_1_r10 b_o3_2_r10 b_o3_3_r10 = some r ∧ st.norm ([3, 4], [0, 3, 4]) = mk [(3, .v false [.mp 3 0 0]), (4, .v false [.mp 4 0 0])] [(0, some ⟨0, 0, true, true, false, true, [⟨.imm, 0, 1, .row 1 (List.map (eK .u8) s_o0_0_r10)⟩, ⟨.imm, 0, 0, .sc (.int .i64 s_o0_1_r10)⟩, ⟨.imm, 0, 0, .sc (.int .u64 s_o0_2_r10)⟩]⟩), (3, some ⟨0, 0, false, true, false, true, [⟨.imm, 0, 0, .sc (.string b_o3_0_r10)⟩, ⟨.imm, 0, 0, .sc (.int .i64 b_o3_1_r10)⟩, ⟨.imm, 0, 0, .sc (.int .i64 b_o3_2_r10)⟩, ⟨.imm, 0, 0, .sc (.int .i64 b_o3_3_r10)⟩]⟩), (4, some ⟨0, 0, false, true, false, true, [⟨.imm, 0, 0, .sc (.string (⟨#[]⟩ : ByteArray))⟩, ⟨.imm, 0, 0, .sc (.int .i64 0)⟩, ⟨.imm, 0, 0, .sc (.int .i64 0)⟩, ⟨.imm, 0, 0, .sc (.int .i64 0)⟩]⟩)]) ?_ ?_
  · rintro st ⟨s_o0_0_r10, s_o0_1_r10, s_o0_2_r10, b_o3_0_r10, b_o3_1_r10, b_o3_2_r10, b_o3_3_r10, h, hst⟩
    unfold spec_l24Bend_k10 at h
    refine Unw.seq ?_
    refine Go.seq ?_
    refine Go.r1 c244 rfl rfl hst (sq z244 (oLd (cs := [.im 0 _, .im 0 _, .im 0 _, .im 0 _]) rfl tF209 rfl rfl) <| sq z244 (oSt tF209 rfl rfl rfl (tkI (tkI (tkI (tkI tk0)))) rfl rfl rfl) <| nl) ?_
    refine Unw.seq ?_
    refine Go.ret (Unw.ret ?_)
    cases h
    exact Fin_ret (fin_of rfl rF244 rfl (by kernel_rfl))
  · intro K5
    refine Go.block ?_
    refine Go.seq ?_
    refine Go.r1 c244 rfl rfl (st1 := mk [(0, .v false [.mp 0 0 0]), (3, .v false [.mp 3 0 0]), (4, .v false [.mp 4 0 0]), (6, iv x6.1)] [(0, some ⟨0, 0, true, true, false, true, [⟨.imm, 0, 1, .row 1 (List.map (eK .u8) x6.2.code)⟩, ⟨.imm, 0, 0, .sc (.int .i64 x6.2.at_)⟩, ⟨.imm, 0, 0, .sc (.int .u64 x6.2.seed)⟩]⟩), (3, some ⟨0, 0, false, true, false, true, [⟨.imm, 0, 0, .sc (.string b_1.Name)⟩, ⟨.imm, 0, 0, .sc (.int .i64 b_1.Spread)⟩, ⟨.imm, 0, 0, .sc (.int .i64 b_1.Open)⟩, ⟨.imm, 0, 0, .sc (.int .i64 b_1.Press)⟩]⟩), (4, some ⟨0, 0, false, true, false, true, [⟨.imm, 0, 0, .sc (.string (⟨#[]⟩ : ByteArray))⟩, ⟨.imm, 0, 0, .sc (.int .i64 0)⟩, ⟨.imm, 0, 0, .sc (.int .i64 0)⟩, ⟨.imm, 0, 0, .sc (.int .i64 0)⟩]⟩)]) (by kernel_rfl) (sq z244 (oBi rfl rfl rfl rfl) <| sq z244 (oAsI rfl rfl) <| nl) ?_
    refine Unw.seq ?_
    by_cases hc6 : x6.1 = 0
    · rw [if_pos hc6] at h
      refine Go.condT rfl (iEq.2 hc6) ?_
      obtain ⟨x11, hx11, h⟩ := bs h
      refine Go.r0 c244 rfl rfl (sq z244 (oMv rfl rfl) <| sq z244 (oBS (es := List.map eI ([0, 120, 121] : List Int)) rfl sF27 rfl (ptC rfl (fxI fx0) rfl (ptC rfl (fxI fx0) rfl (ptC rfl (fxI fx0) rfl pt0))) (flat0 rfl fun _ => rfl)) <| sq z244 (oCa (xs := [.v false [.mp 0 0 0], .v false [.own 10 0 0]]) (vs := [(false, [.im 0 _])]) (v := .v false [.im 0 _]) (L_spec_l00Src_among hx11) (.inl rfl) rfl kF99_121_27 rfl (ppP rfl rfl rfl (ppC rfl pp0)) rfl rfl (pbP rfl rfl pb0) rfl rfl rfl) <| sq z244 (oFA (r' := .mp 3 0 1) rfl fF209_1 rfl rfl) <| sq z244 (oSt tF2 rfl rfl rfl (tkI tk0) rfl rfl rfl) <| nl) ?_
      refine Unw.blk ?_
      exact K5 _ ⟨x11.2.code, x11.2.at_, x11.2.seed, b_1.Name, x11.1, b_1.Open, b_1.Press, h, (by kernel_rfl)⟩
    · rw [if_neg hc6] at h
      refine Go.condF rfl (byF iEq hc6) ?_
      refine Go.seq ?_
      refine Go.r0 c244 rfl rfl (sq z244 (oBi rfl rfl rfl rfl) <| sq z244 (oAsI rfl rfl) <| nl) ?_
      refine Unw.seq ?_
      by_cases hc7 : x6.1 = 1
      · rw [if_pos hc7] at h
        refine Go.condT rfl (iEq.2 hc7) ?_
        obtain ⟨x20, hx20, h⟩ := bs h
        refine Go.r0 c244 rfl rfl (sq z244 (oMv rfl rfl) <| sq z244 (oFA (r' := .mp 3 0 1) rfl fF209_1 rfl rfl) <| sq z244 (oLd (cs := [.im 0 _]) rfl tF2 rfl rfl) <| sq z244 (oBi rfl rfl rfl rfl) <| sq z244 (oBS (es := List.map eI ([(w64 (b_1.Spread - 1)), 240, 241] : List Int)) rfl sF27 rfl (ptC rfl (fxI fx0) rfl (ptC rfl (fxI fx0) rfl (ptC rfl (fxI fx0) rfl pt0))) (flat0 rfl fun _ => rfl)) <| sq z244 (oCa (xs := [.v false [.mp 0 0 0], .v false [.own 19 0 0]]) (vs := [(false, [.im 0 _])]) (v := .v false [.im 0 _]) (L_spec_l00Src_among hx20) (.inl rfl) rfl kF99_121_27 rfl (ppP rfl rfl rfl (ppC rfl pp0)) rfl rfl (pbP rfl rfl pb0) rfl rfl rfl) <| sq z244 (oFA (r' := .mp 3 0 2) rfl fF209_2 rfl rfl) <| sq z244 (oSt tF2 rfl rfl rfl (tkI tk0) rfl rfl rfl) <| nl) ?_
        refine Unw.blk ?_
        exact K5 _ ⟨x20.2.code, x20.2.at_, x20.2.seed, b_1.Name, b_1.Spread, x20.1, b_1.Press, h, (by kernel_rfl)⟩
      · rw [if_neg hc7] at h
        refine Go.condF rfl (byF iEq hc7) ?_
        refine Go.seq ?_
        refine Go.r0 c244 rfl rfl (sq z244 (oBi rfl rfl rfl rfl) <| sq z244 (oAsI rfl rfl) <| nl) ?_
        refine Unw.seq ?_
        by_cases hc8 : x6.1 = 2
        · rw [if_pos hc8] at h
          refine Go.condT rfl (iEq.2 hc8) ?_
          obtain ⟨x26, hx26, h⟩ := bs h
          refine Go.r0 c244 rfl rfl (sq z244 (oMv rfl rfl) <| sq z244 (oBS (es := List.map eI ([0, 1440, 1441] : List Int)) rfl sF27 rfl (ptC rfl (fxI fx0) rfl (ptC rfl (fxI fx0) rfl (ptC rfl (fxI fx0) rfl pt0))) (flat0 rfl fun _ => rfl)) <| sq z244 (oCa (xs := [.v false [.mp 0 0 0], .v false [.own 25 0 0]]) (vs := [(false, [.im 0 _])]) (v := .v false [.im 0 _]) (L_spec_l00Src_among hx26) (.inl rfl) rfl kF99_121_27 rfl (ppP rfl rfl rfl (ppC rfl pp0)) rfl rfl (pbP rfl rfl pb0) rfl rfl rfl) <| sq z244 (oFA (r' := .mp 3 0 3) rfl fF209_3 rfl rfl) <| sq z244 (oSt tF2 rfl rfl rfl (tkI tk0) rfl rfl rfl) <| nl) ?_
          refine Unw.blk ?_
          exact K5 _ ⟨x26.2.code, x26.2.at_, x26.2.seed, b_1.Name, b_1.Spread, b_1.Open, x26.1, h, (by kernel_rfl)⟩
        · rw [if_neg hc8] at h
          refine Go.condF rfl (byF iEq hc8) ?_
          refine Go.seq ?_
          refine Go.r0 c244 rfl rfl (sq z244 (oBi rfl rfl rfl rfl) <| sq z244 (oAsI rfl rfl) <| nl) ?_
          refine Unw.seq ?_
          by_cases hc9 : x6.1 = 3
          · rw [if_pos hc9] at h
            refine Go.condT rfl (iEq.2 hc9) ?_
            obtain ⟨x32, hx32, h⟩ := bs h
            refine Go.r0 c244 rfl rfl (sq z244 (oMv rfl rfl) <| sq z244 (oBS (es := List.map eS ([(⟨#[]⟩ : ByteArray), (⟨#[66]⟩ : ByteArray)] : List ByteArray)) rfl sF296 rfl (ptC rfl (fxI fx0) rfl (ptC rfl (fxI fx0) rfl pt0)) (flat0 rfl fun _ => rfl)) <| sq z244 (oCa (xs := [.v false [.mp 0 0 0], .v false [.own 31 0 0]]) (vs := [(false, [.im 0 _])]) (v := .v false [.im 0 _]) (L_spec_l00Src_text hx32) (.inl rfl) rfl kF239_121_296 rfl (ppP rfl rfl rfl (ppC rfl pp0)) rfl rfl (pbP rfl rfl pb0) rfl rfl rfl) <| sq z244 (oFA (r' := .mp 3 0 0) rfl fF209_0 rfl rfl) <| sq z244 (oSt tF9 rfl rfl rfl (tkI tk0) rfl rfl rfl) <| nl) ?_
            refine Unw.blk ?_
            exact K5 _ ⟨x32.2.code, x32.2.at_, x32.2.seed, x32.1, b_1.Spread, b_1.Open, b_1.Press, h, (by kernel_rfl)⟩
          · rw [if_neg hc9] at h
            refine Go.condF rfl (byF iEq hc9) ?_
            refine Go.skip ?_
            refine Unw.blk ?_
            exact K5 _ ⟨x6.2.code, x6.2.at_, x6.2.seed, b_1.Name, b_1.Spread, b_1.Open, b_1.Press, h, (by kernel_rfl)⟩
theorem L_spec_l24DrawList {s_0 : S_l00Src} {r : ((List S_Bond) × S_l00Src)} (h : spec_l24DrawList s_0 = some r) : FL Try.prog cfg 175 [.ptr true [(.imm, .row 1 (List.map (eK .u8) s_0.code)), (.imm, .sc (.int .i64 s_0.at_)), (.imm, .sc (.int .u64 s_0.seed))]] = some ([(false, [.ow 0 4 (List.map e_S_Bond r.1)])], [.ptr true [(.imm, .row 1 (List.map (eK .u8) r.2.code)), (.imm, .sc (.int .i64 r.2.at_)), (.imm, .sc (.int .u64 r.2.seed))]]) := by
  unfold spec_l24DrawList at h
  refine FL_goS (A := [(0, .v false [.mp 0 0 0])]) (B := [(0, some ⟨0, 0, true, true, false, true, [⟨.imm, 0, 1, .row 1 (List.map (eK .u8) s_0.code)⟩, ⟨.imm, 0, 0, .sc (.int .i64 s_0.at_)⟩, ⟨.imm, 0, 0, .sc (.int .u64 s_0.seed)⟩]⟩)]) (nt := 60) rfl rfl Try.func175 rfl rfl rfl rfl ?_
  refine Go.seq ?_
  refine Go.r0 c175 rfl rfl (sq z175 (oAsN rfl rfl eF81) <| nl) ?_
  refine Unw.seq ?_
  refine Go.seq ?_
  refine Go.r0 c175 rfl rfl (sq z175 (oBS (es := List.map eS ([(⟨#[97]⟩ : ByteArray), (⟨#[98]⟩ : ByteArray), (⟨#[99]⟩ : ByteArray), (⟨#[100]⟩ : ByteArray), (⟨#[101]⟩ : ByteArray), (⟨#[102]⟩ : ByteArray)] : List ByteArray)) rfl sF296 rfl (ptC rfl (fxI fx0) rfl (ptC rfl (fxI fx0) rfl (ptC rfl (fxI fx0) rfl (ptC rfl (fxI fx0) rfl (ptC rfl (fxI fx0) rfl (ptC rfl (fxI fx0) rfl pt0)))))) (flat0 rfl fun _ => rfl)) <| sq z175 (oAsO rfl rfl rfl rfl rfl) <| nl) ?_
  refine Unw.seq ?_
  refine Go.seq ?_
  refine Go.r0 c175 rfl rfl (sq z175 (oBS (es := List.map e_S_Bond ([] : List S_Bond)) rfl sF81 rfl pt0 (flat0 rfl fun _ => rfl)) <| sq z175 (oAsO rfl rfl rfl rfl rfl) <| nl) ?_
  refine Unw.seq ?_
  refine Go.seq ?_
  refine Go.seq ?_
  refine Go.r0 c175 rfl rfl (sq z175 (oAsI rfl rfl) <| nl) ?_
  refine Unw.seq ?_
  refine Go.block ?_
  obtain ⟨o, hl, h⟩ := bs h
  refine Go.lp c175 rfl _ (fun (s : (Int × (List Int) × Int × Int × (List S_Bond))) => match s with | (k_5_l4, s_o0_0_l4, s_o0_1_l4, s_o0_2_l4, out_o4_l4) => mk [(0, .v false [.mp 0 0 0]), (3, .v false [.own 3 0 0]), (4, .v false [.own 4 0 0]), (5, iv k_5_l4)] [(0, some ⟨0, 0, true, true, false, true, [⟨.imm, 0, 1, .row 1 (List.map (eK .u8) s_o0_0_l4)⟩, ⟨.imm, 0, 0, .sc (.int .i64 s_o0_1_l4)⟩, ⟨.imm, 0, 0, .sc (.int .u64 s_o0_2_l4)⟩]⟩), (3, some ⟨0, 0, false, false, false, false, [⟨.sh, 0, 0, .row 1 (List.map eS ([(⟨#[97]⟩ : ByteArray), (⟨#[98]⟩ : ByteArray), (⟨#[99]⟩ : ByteArray), (⟨#[100]⟩ : ByteArray), (⟨#[101]⟩ : ByteArray), (⟨#[102]⟩ : ByteArray)] : List ByteArray))⟩]⟩), (4, some ⟨0, 0, false, false, false, false, [⟨.sh, 0, 0, .row 4 (List.map e_S_Bond out_o4_l4)⟩]⟩)]) (fun (o : ((List Int) × Int × Int × (List S_Bond))) (p : Ex × St) => match o with | (s_o0_0_e0_4, s_o0_1_e0_4, s_o0_2_e0_4, out_o4_e0_4) => p.1 = .exit 0 ∧ p.2.norm ([0, 4], [0, 4]) = mk [(0, .v false [.mp 0 0 0]), (4, .v false [.own 4 0 0])] [(0, some ⟨0, 0, true, true, false, true, [⟨.imm, 0, 1, .row 1 (List.map (eK .u8) s_o0_0_e0_4)⟩, ⟨.imm, 0, 0, .sc (.int .i64 s_o0_1_e0_4)⟩, ⟨.imm, 0, 0, .sc (.int .u64 s_o0_2_e0_4)⟩]⟩), (4, some ⟨0, 0, false, false, false, false, [⟨.sh, 0, 0, .row 4 (List.map e_S_Bond out_o4_e0_4)⟩]⟩)]) hl (by kernel_rfl) ?_ ?_ ?_
  · intro o p hp e
    obtain ⟨s_o0_0_e0_4, s_o0_1_e0_4, s_o0_2_e0_4, out_o4_e0_4⟩ := o
    exact nomatch (hp.1.symm.trans e)
  · rintro ⟨k_5_l4, s_o0_0_l4, s_o0_1_l4, s_o0_2_l4, out_o4_l4⟩ o h
    unfold spec_l24DrawList_l4 at h
    dsimp only at h
    refine Go.seq ?_
    refine Go.seq ?_
    refine Go.r0 c175 rfl rfl (sq z175 (oMv rfl rfl) <| sq z175 (oMv rfl rfl) <| sq z175 (oLnO rfl rfl uF296 rfl rfl rfl (fun e => nomatch e)) <| sq z175 (oBi rfl rfl rfl rfl) <| nl) ?_
    refine Unw.seq ?_
    by_cases hc15 : k_5_l4 < (([(⟨#[97]⟩ : ByteArray), (⟨#[98]⟩ : ByteArray), (⟨#[99]⟩ : ByteArray), (⟨#[100]⟩ : ByteArray), (⟨#[101]⟩ : ByteArray), (⟨#[102]⟩ : ByteArray)] : List ByteArray).length : Int)
    · rw [if_pos hc15] at h
      refine Go.condT rfl (iDec.2 hc15) ?_
      refine Go.skip ?_
      refine Unw.seq ?_
      refine Go.seq ?_
      refine Go.join (fun st => ∃ s_o0_0_r5, ∃ s_o0_1_r5, ∃ s_o0_2_r5, ∃ out_o4_r5, spec_l24DrawList_k5 k_5_l4 s_o0_0_r5 s_o0_1_r5 s_o0_2_r5 out_o4_r5 = some o ∧ st.norm ([0, 3, 4, 5], [0, 3, 4]) = mk [(0, .v false [.mp 0 0 0]), (3, .v false [.own 3 0 0]), (4, .v false [.own 4 0 0]), (5, iv k_5_l4)] [(0, some ⟨0, 0, true, true, false, true, [⟨.imm, 0, 1, .row 1 (List.map (eK .u8) s_o0_0_r5)⟩, ⟨.imm, 0, 0, .sc (.int .i64 s_o0_1_r5)⟩, ⟨.imm, 0, 0, .sc (.int .u64 s_o0_2_r5)⟩]⟩), (3, some ⟨0, 0, false, false, false, false, [⟨.sh, 0, 0, .row 1 (List.map eS ([(⟨#[97]⟩ : ByteArray), (⟨#[98]⟩ : ByteArray), (⟨#[99]⟩ : ByteArray), (⟨#[100]⟩ : ByteArray), (⟨#[101]⟩ : ByteArray), (⟨#[102]⟩ : ByteArray)] : List ByteArray))⟩]⟩), (4, some ⟨0, 0, false, false, false, false, [⟨.sh, 0, 0, .row 4 (List.map e_S_Bond out_o4_r5)⟩]⟩)]) ?_ ?_
      · rintro st ⟨s_o0_0_r5, s_o0_1_r5, s_o0_2_r5, out_o4_r5, h, hst⟩
        unfold spec_l24DrawList_k5 at h
        refine Unw.seq ?_
        refine Go.r1 c175 rfl rfl hst (sq z175 (oMv rfl rfl) <| sq z175 (oBi rfl rfl rfl rfl) <| sq z175 (oAsI rfl rfl) <| nl) ?_
        refine Unw.nil ?_
        cases h
        exact ⟨rfl, (by kernel_rfl)⟩
      · intro K17
        refine Go.block ?_
        refine Go.seq ?_
        obtain ⟨x17, hx17, h⟩ := bs h
        refine Go.r0 c175 rfl rfl (sq z175 (oMv rfl rfl) <| sq z175 (oCa (xs := [.v false [.mp 0 0 0], .v false [.im 0 _]]) (vs := [(false, [.im 0 _])]) (v := .v false [.im 0 _]) (L_spec_l00Src_one hx17) (.inl rfl) rfl kF183_121_2 rfl (ppP rfl rfl rfl (ppC rfl pp0)) rfl rfl (pbP rfl rfl pb0) rfl rfl rfl) <| nl) ?_
        refine Unw.seq ?_
        by_cases hc18 : x17.1 = true
        · rw [if_pos hc18] at h
          refine Go.condT rfl (Iff.rfl.2 hc18) ?_
          obtain ⟨x22, hx22, h⟩ := bs h
          obtain ⟨x24, hx24, h⟩ := bs h
          obtain ⟨x26, hx26, h⟩ := bs h
          refine Go.r1 c175 rfl rfl (st1 := mk [(0, .v false [.mp 0 0 0]), (3, .v false [.own 3 0 0]), (4, .v false [.own 4 0 0]), (5, iv k_5_l4)] [(0, some ⟨0, 0, true, true, false, true, [⟨.imm, 0, 1, .row 1 (List.map (eK .u8) x17.2.code)⟩, ⟨.imm, 0, 0, .sc (.int .i64 x17.2.at_)⟩, ⟨.imm, 0, 0, .sc (.int .u64 x17.2.seed)⟩]⟩), (3, some ⟨0, 0, false, false, false, false, [⟨.sh, 0, 0, .row 1 (List.map eS ([(⟨#[97]⟩ : ByteArray), (⟨#[98]⟩ : ByteArray), (⟨#[99]⟩ : ByteArray), (⟨#[100]⟩ : ByteArray), (⟨#[101]⟩ : ByteArray), (⟨#[102]⟩ : ByteArray)] : List ByteArray))⟩]⟩), (4, some ⟨0, 0, false, false, false, false, [⟨.sh, 0, 0, .row 4 (List.map e_S_Bond out_o4_l4)⟩]⟩)]) (by kernel_rfl) (sq z175 (oMv rfl rfl) <| sq z175 (oMv rfl rfl) <| sq z175 (oMv rfl rfl) <| sq z175 (oMv rfl rfl) <| sq z175 (oIAO rfl hx22 sF296 rfl rfl rfl rfl) <| sq z175 (oLdE (cs := [.im 0 _]) rfl tF9 rfl rfl rfl (fun e => nomatch e) (rd_get hx22) rfl rfl) <| sq z175 (oCa (xs := [.v false [.mp 0 0 0], .v false [.im 0 _]]) (vs := [(true, [.im 0 _, .im 0 _, .im 0 _, .im 0 _])]) (v := .v true [.im 0 _, .im 0 _, .im 0 _, .im 0 _]) (L_spec_l24DrawOne hx24) (.inl rfl) rfl kF243_121_9 rfl (ppP rfl rfl rfl (ppC rfl pp0)) rfl rfl (pbP rfl rfl pb0) rfl rfl rfl) <| sq z175 (oBS (es := List.map e_S_Bond ([x24.1] : List S_Bond)) rfl sF81 rfl (ptC rfl (fxI (fxI (fxI (fxI fx0)))) rfl pt0) (flat0 rfl fun _ => rfl)) <| sq z175 (oApO (en := e_S_Bond) (M := ([x24.1] : List S_Bond)) rfl hx26 rfl sF81 rfl rfl uF81 (.inl ⟨_, rfl⟩) rfl rfl rfl rfl (el_own rfl rfl) (flat0 rfl fun _ => rfl)) <| sq z175 (oAsO rfl rfl rfl rfl rfl) <| nl) ?_
          refine Unw.blk ?_
          exact K17 _ ⟨x24.2.code, x24.2.at_, x24.2.seed, x26, h, (by kernel_rfl)⟩
        · rw [if_neg hc18] at h
          refine Go.condF rfl (byF Iff.rfl hc18) ?_
          refine Go.skip ?_
          refine Unw.blk ?_
          exact K17 _ ⟨x17.2.code, x17.2.at_, x17.2.seed, out_o4_l4, h, (by kernel_rfl)⟩
    · rw [if_neg hc15] at h
      refine Go.condF rfl (byF iDec hc15) ?_
      refine Go.exit ?_
      refine Unw.seqx ?_
      refine Unw.nil ?_
      cases h
      exact ⟨rfl, (by kernel_rfl)⟩
  · rintro ⟨e, st⟩ hp
    obtain ⟨s_o0_0_e0_4, s_o0_1_e0_4, s_o0_2_e0_4, out_o4_e0_4⟩ := o
    dsimp only at h
    obtain ⟨he, hst⟩ := hp
    obtain rfl : e = .exit 0 := he
    refine Unw.blkx ?_
    refine Unw.seq ?_
    refine Go.seq ?_
    refine Go.seq ?_
    obtain ⟨x28, hx28, h⟩ := bs h
    refine Go.r1 c175 rfl rfl hst (sq z175 (oMv rfl rfl) <| sq z175 (oCa (xs := [.v false [.mp 0 0 0], .v false [.im 0 _]]) (vs := [(false, [.im 0 _])]) (v := .v false [.im 0 _]) (L_spec_l00Src_pick hx28) (.inl rfl) rfl kF184_121_2 rfl (ppP rfl rfl rfl (ppC rfl pp0)) rfl rfl (pbP rfl rfl pb0) rfl rfl rfl) <| nl) ?_
    refine Unw.seq ?_
    refine Go.join (fun st => ∃ s_o0_0_r18, ∃ s_o0_1_r18, ∃ s_o0_2_r18, ∃ out_o4_r18, spec_l24DrawList_k18 s_o0_0_r18 s_o0_1_r18 s_o0_2_r18 out_o4_r18 = some r ∧ st.norm ([4], [0, 4]) = mk [(4, .v false [.own 4 0 0])] [(0, some ⟨0, 0, true, true, false, true, [⟨.imm, 0, 1, .row 1 (List.map (eK .u8) s_o0_0_r18)⟩, ⟨.imm, 0, 0, .sc (.int .i64 s_o0_1_r18)⟩, ⟨.imm, 0, 0, .sc (.int .u64 s_o0_2_r18)⟩]⟩), (4, some ⟨0, 0, false, false, false, false, [⟨.sh, 0, 0, .row 4 (List.map e_S_Bond out_o4_r18)⟩]⟩)]) ?_ ?_
    · rintro st ⟨s_o0_0_r18, s_o0_1_r18, s_o0_2_r18, out_o4_r18, h, hst⟩
      unfold spec_l24DrawList_k18 at h
      refine Unw.seq ?_
      refine Go.seq ?_
      refine Go.r1 c175 rfl rfl hst (sq z175 (oMv rfl rfl) <| sq z175 (oAsO rfl rfl rfl rfl rfl) <| nl) ?_
      refine Unw.seq ?_
      refine Go.ret (Unw.ret ?_)
      cases h
      exact Fin_ret (fin_of rfl rF175 rfl (by kernel_rfl))
    · intro K9
      refine Go.block ?_
      refine Go.seq ?_
      refine Go.r1 c175 rfl rfl (st1 := mk [(0, .v false [.mp 0 0 0]), (4, .v false [.own 4 0 0]), (28, iv x28.1)] [(0, some ⟨0, 0, true, true, false, true, [⟨.imm, 0, 1, .row 1 (List.map (eK .u8) x28.2.code)⟩, ⟨.imm, 0, 0, .sc (.int .i64 x28.2.at_)⟩, ⟨.imm, 0, 0, .sc (.int .u64 x28.2.seed)⟩]⟩), (4, some ⟨0, 0, false, false, false, false, [⟨.sh, 0, 0, .row 4 (List.map e_S_Bond out_o4_e0_4)⟩]⟩)]) (by kernel_rfl) (sq z175 (oBi rfl rfl rfl rfl) <| sq z175 (oAsI rfl rfl) <| nl) ?_
      refine Unw.seq ?_
      by_cases hc10 : x28.1 = 0
      · rw [if_pos hc10] at h
        refine Go.condT rfl (iEq.2 hc10) ?_
        obtain ⟨x34, hx34, h⟩ := bs h
        obtain ⟨x35, hx35, h⟩ := bs h
        obtain ⟨x37, hx37, h⟩ := bs h
        refine Go.r0 c175 rfl rfl (sq z175 (oMv rfl rfl) <| sq z175 (oMv rfl rfl) <| sq z175 (oMv rfl rfl) <| sq z175 (oCa (xs := [.v false [.mp 0 0 0], .v false [.im 0 _]]) (vs := [(true, [.im 0 _, .im 0 _, .im 0 _, .im 0 _])]) (v := .v true [.im 0 _, .im 0 _, .im 0 _, .im 0 _]) (L_spec_l24DrawOne hx34) (.inl rfl) rfl kF243_121_9 rfl (ppP rfl rfl rfl (ppC rfl pp0)) rfl rfl (pbP rfl rfl pb0) rfl rfl rfl) <| sq z175 (oCa (xs := [.v false [.mp 0 0 0], .v true [.im 0 _, .im 0 _, .im 0 _, .im 0 _]]) (vs := [(true, [.im 0 _, .im 0 _, .im 0 _, .im 0 _])]) (v := .v true [.im 0 _, .im 0 _, .im 0 _, .im 0 _]) (L_spec_l24Bend hx35) (.inl rfl) rfl kF244_121_209 rfl (ppP rfl rfl rfl (ppC rfl pp0)) rfl rfl (pbP rfl rfl pb0) rfl rfl rfl) <| sq z175 (oBS (es := List.map e_S_Bond ([x35.1] : List S_Bond)) rfl sF81 rfl (ptC rfl (fxI (fxI (fxI (fxI fx0)))) rfl pt0) (flat0 rfl fun _ => rfl)) <| sq z175 (oApO (en := e_S_Bond) (M := ([x35.1] : List S_Bond)) rfl hx37 rfl sF81 rfl rfl uF81 (.inl ⟨_, rfl⟩) rfl rfl rfl rfl (el_own rfl rfl) (flat0 rfl fun _ => rfl)) <| sq z175 (oAsO rfl rfl rfl rfl rfl) <| nl) ?_
        refine Unw.blk ?_
        exact K9 _ ⟨x35.2.code, x35.2.at_, x35.2.seed, x37, h, (by kernel_rfl)⟩
      · rw [if_neg hc10] at h
        refine Go.condF rfl (byF iEq hc10) ?_
        refine Go.seq ?_
        refine Go.r0 c175 rfl rfl (sq z175 (oBi rfl rfl rfl rfl) <| sq z175 (oAsI rfl rfl) <| nl) ?_
        refine Unw.seq ?_
        by_cases hc11 : x28.1 = 1
        · rw [if_pos hc11] at h
          refine Go.condT rfl (iEq.2 hc11) ?_
          refine Go.seq ?_
          obtain ⟨x42, hx42, h⟩ := bs h
          refine Go.r0 c175 rfl rfl (sq z175 (oMv rfl rfl) <| sq z175 (oBS (es := List.map eI ([12, 13] : List Int)) rfl sF27 rfl (ptC rfl (fxI fx0) rfl (ptC rfl (fxI fx0) rfl pt0)) (flat0 rfl fun _ => rfl)) <| sq z175 (oCa (xs := [.v false [.mp 0 0 0], .v false [.own 41 0 0]]) (vs := [(false, [.im 0 _])]) (v := .v false [.im 0 _]) (L_spec_l00Src_among hx42) (.inl rfl) rfl kF99_121_27 rfl (ppP rfl rfl rfl (ppC rfl pp0)) rfl rfl (pbP rfl rfl pb0) rfl rfl rfl) <| sq z175 (oAsI rfl rfl) <| nl) ?_
          refine Unw.seq ?_
          refine Go.seq ?_
          refine Go.r1 c175 rfl rfl (st1 := mk [(6, iv x42.1)] [(0, some ⟨0, 0, true, true, false, true, [⟨.imm, 0, 1, .row 1 (List.map (eK .u8) x42.2.code)⟩, ⟨.imm, 0, 0, .sc (.int .i64 x42.2.at_)⟩, ⟨.imm, 0, 0, .sc (.int .u64 x42.2.seed)⟩]⟩)]) (by kernel_rfl) (sq z175 (oBS (es := List.map e_S_Bond ([] : List S_Bond)) rfl sF81 rfl pt0 (flat0 rfl fun _ => rfl)) <| sq z175 (oAsO rfl rfl rfl rfl rfl) <| nl) ?_
          refine Unw.seq ?_
          refine Go.seq ?_
          refine Go.r0 c175 rfl rfl (sq z175 (oAsI rfl rfl) <| nl) ?_
          refine Unw.seq ?_
          refine Go.block ?_
          obtain ⟨o, hl, h⟩ := bs h
          refine Go.lp c175 rfl _ (fun (s : (Int × (List S_Bond))) => match s with | (k_7_l15, out_o4_l15) => mk [(4, .v false [.own 4 0 0]), (6, iv x42.1), (7, iv k_7_l15)] [(0, some ⟨0, 0, true, true, false, true, [⟨.imm, 0, 1, .row 1 (List.map (eK .u8) x42.2.code)⟩, ⟨.imm, 0, 0, .sc (.int .i64 x42.2.at_)⟩, ⟨.imm, 0, 0, .sc (.int .u64 x42.2.seed)⟩]⟩), (4, some ⟨0, 0, false, false, false, false, [⟨.sh, 0, 0, .row 4 (List.map e_S_Bond out_o4_l15)⟩]⟩)]) (fun (out_o4_e3_15 : (List S_Bond)) (p : Ex × St) => p.1 = .exit 3 ∧ p.2.norm ([4], [0, 4]) = mk [(4, .v false [.own 4 0 0])] [(0, some ⟨0, 0, true, true, false, true, [⟨.imm, 0, 1, .row 1 (List.map (eK .u8) x42.2.code)⟩, ⟨.imm, 0, 0, .sc (.int .i64 x42.2.at_)⟩, ⟨.imm, 0, 0, .sc (.int .u64 x42.2.seed)⟩]⟩), (4, some ⟨0, 0, false, false, false, false, [⟨.sh, 0, 0, .row 4 (List.map e_S_Bond out_o4_e3_15)⟩]⟩)]) hl (by kernel_rfl) ?_ ?_ ?_
          · intro o p hp e
            exact nomatch (hp.1.symm.trans e)
          · rintro ⟨k_7_l15, out_o4_l15⟩ o h
            unfold spec_l24DrawList_l15 at h
            dsimp only at h
            refine Go.seq ?_
            refine Go.seq ?_
            refine Go.r0 c175 rfl rfl (sq z175 (oMv rfl rfl) <| sq z175 (oMv rfl rfl) <| sq z175 (oBi rfl rfl rfl rfl) <| nl) ?_
            refine Unw.seq ?_
            by_cases hc14 : k_7_l15 < x42.1
            · rw [if_pos hc14] at h
              refine Go.condT rfl (iDec.2 hc14) ?_
              refine Go.skip ?_
              refine Unw.seq ?_
              refine Go.seq ?_
              refine Go.block ?_
              obtain ⟨x55, hx55, h⟩ := bs h
              obtain ⟨x58, hx58, h⟩ := bs h
              refine Go.r0 c175 rfl rfl (sq z175 (oMv rfl rfl) <| sq z175 (oMv rfl rfl) <| sq z175 (oBi rfl rfl rfl rfl) <| sq z175 (oCvI rfl uF2 uF5 rfl) <| sq z175 (oBS (es := List.map (eK .u8) ([(IntKind.wrap .u8 ((w64 (97 + k_7_l15))))] : List Int)) rfl sF22 rfl (ptC rfl (fxI fx0) rfl pt0) (flat0 rfl fun _ => rfl)) <| sq z175 (oCvB (l := ([(IntKind.wrap .u8 ((w64 (97 + k_7_l15))))] : List Int)) rfl uF22 uF5 uF9 rfl (el_own rfl rfl)) <| sq z175 (oCat rfl hx55 rfl rfl) <| sq z175 (oBu (cs := [.im 0 _, .im 0 _, .im 0 _, .im 0 _]) rfl bF209 rfl) <| sq z175 (oBS (es := List.map e_S_Bond ([(⟨x55, 2, 9, 20⟩ : S_Bond)] : List S_Bond)) rfl sF81 rfl (ptC rfl (fxI (fxI (fxI (fxI fx0)))) rfl pt0) (flat0 rfl fun _ => rfl)) <| sq z175 (oApO (en := e_S_Bond) (M := ([(⟨x55, 2, 9, 20⟩ : S_Bond)] : List S_Bond)) rfl hx58 rfl sF81 rfl rfl uF81 (.inl ⟨_, rfl⟩) rfl rfl rfl rfl (el_own rfl rfl) (flat0 rfl fun _ => rfl)) <| sq z175 (oAsO rfl rfl rfl rfl rfl) <| nl) ?_
              refine Unw.blk ?_
              refine Unw.seq ?_
              refine Go.r0 c175 rfl rfl (sq z175 (oMv rfl rfl) <| sq z175 (oBi rfl rfl rfl rfl) <| sq z175 (oAsI rfl rfl) <| nl) ?_
              refine Unw.nil ?_
              cases h
              exact ⟨rfl, (by kernel_rfl)⟩
            · rw [if_neg hc14] at h
              refine Go.condF rfl (byF iDec hc14) ?_
              refine Go.exit ?_
              refine Unw.seqx ?_
              refine Unw.nil ?_
              cases h
              exact ⟨rfl, (by kernel_rfl)⟩
          · rintro ⟨e, st⟩ hp
            obtain ⟨out_o4_e3_15, rfl⟩ : ∃ y, y = o := ⟨o, rfl⟩
            obtain ⟨he, hst⟩ := hp
            obtain rfl : e = .exit 3 := he
            refine Unw.blkx ?_
            refine Unw.blk ?_
            exact K9 _ ⟨x42.2.code, x42.2.at_, x42.2.seed, out_o4_e3_15, h, hst⟩
        · rw [if_neg hc11] at h
          refine Go.condF rfl (byF iEq hc11) ?_
          refine Go.skip ?_
          refine Unw.blk ?_
          exact K9 _ ⟨x28.2.code, x28.2.at_, x28.2.seed, out_o4_e0_4, h, (by kernel_rfl)⟩
theorem L_spec_l24DrawPresses {s_0 : S_l00Src} {r : (Int × S_l00Src)} (h : spec_l24DrawPresses s_0 = some r) : FL Try.prog cfg 176 [.ptr true [(.imm, .row 1 (List.map (eK .u8) s_0.code)), (.imm, .sc (.int .i64 s_0.at_)), (.imm, .sc (.int .u64 s_0.seed))]] = some ([(false, [.im 0 (.sc (.int .i64 r.1))])], [.ptr true [(.imm, .row 1 (List.map (eK .u8) r.2.code)), (.imm, .sc (.int .i64 r.2.at_)), (.imm, .sc (.int .u64 r.2.seed))]]) := by
  unfold spec_l24DrawPresses at h
  refine FL_goS (A := [(0, .v false [.mp 0 0 0])]) (B := [(0, some ⟨0, 0, true, true, false, true, [⟨.imm, 0, 1, .row 1 (List.map (eK .u8) s_0.code)⟩, ⟨.imm, 0, 0, .sc (.int .i64 s_0.at_)⟩, ⟨.imm, 0, 0, .sc (.int .u64 s_0.seed)⟩]⟩)]) (nt := 11) rfl rfl Try.func176 rfl rfl rfl rfl ?_
  refine Go.seq ?_
  refine Go.r0 c176 rfl rfl (sq z176 (oAsI rfl rfl) <| nl) ?_
  refine Unw.seq ?_
  refine Go.seq ?_
  refine Go.seq ?_
  obtain ⟨x4, hx4, h⟩ := bs h
  refine Go.r0 c176 rfl rfl (sq z176 (oMv rfl rfl) <| sq z176 (oCa (xs := [.v false [.mp 0 0 0], .v false [.im 0 _]]) (vs := [(false, [.im 0 _])]) (v := .v false [.im 0 _]) (L_spec_l00Src_one hx4) (.inl rfl) rfl kF183_121_2 rfl (ppP rfl rfl rfl (ppC rfl pp0)) rfl rfl (pbP rfl rfl pb0) rfl rfl rfl) <| nl) ?_
  refine Unw.seq ?_
  by_cases hc1 : x4.1 = true
  · rw [if_pos hc1] at h
    refine Go.condT rfl (Iff.rfl.2 hc1) ?_
    refine Go.seq ?_
    obtain ⟨x7, hx7, h⟩ := bs h
    refine Go.r1 c176 rfl rfl (st1 := mk [(0, .v false [.mp 0 0 0])] [(0, some ⟨0, 0, true, true, false, true, [⟨.imm, 0, 1, .row 1 (List.map (eK .u8) x4.2.code)⟩, ⟨.imm, 0, 0, .sc (.int .i64 x4.2.at_)⟩, ⟨.imm, 0, 0, .sc (.int .u64 x4.2.seed)⟩]⟩)]) (by kernel_rfl) (sq z176 (oMv rfl rfl) <| sq z176 (oBS (es := List.map eI ([0, 4, 5] : List Int)) rfl sF27 rfl (ptC rfl (fxI fx0) rfl (ptC rfl (fxI fx0) rfl (ptC rfl (fxI fx0) rfl pt0))) (flat0 rfl fun _ => rfl)) <| sq z176 (oCa (xs := [.v false [.mp 0 0 0], .v false [.own 6 0 0]]) (vs := [(false, [.im 0 _])]) (v := .v false [.im 0 _]) (L_spec_l00Src_among hx7) (.inl rfl) rfl kF99_121_27 rfl (ppP rfl rfl rfl (ppC rfl pp0)) rfl rfl (pbP rfl rfl pb0) rfl rfl rfl) <| sq z176 (oAsI rfl rfl) <| nl) ?_
    refine Unw.seq ?_
    refine Go.ret (Unw.ret ?_)
    cases h
    exact Fin_ret (fin_of rfl rF176 rfl (by kernel_rfl))
  · rw [if_neg hc1] at h
    refine Go.condF rfl (byF Iff.rfl hc1) ?_
    refine Go.skip ?_
    refine Unw.seq ?_
    refine Go.seq ?_
    obtain ⟨x9, hx9, h⟩ := bs h
    refine Go.r1 c176 rfl rfl (st1 := mk [(0, .v false [.mp 0 0 0])] [(0, some ⟨0, 0, true, true, false, true, [⟨.imm, 0, 1, .row 1 (List.map (eK .u8) x4.2.code)⟩, ⟨.imm, 0, 0, .sc (.int .i64 x4.2.at_)⟩, ⟨.imm, 0, 0, .sc (.int .u64 x4.2.seed)⟩]⟩)]) (by kernel_rfl) (sq z176 (oMv rfl rfl) <| sq z176 (oCa (xs := [.v false [.mp 0 0 0], .v false [.im 0 _]]) (vs := [(false, [.im 0 _])]) (v := .v false [.im 0 _]) (L_spec_l00Src_pick hx9) (.inl rfl) rfl kF184_121_2 rfl (ppP rfl rfl rfl (ppC rfl pp0)) rfl rfl (pbP rfl rfl pb0) rfl rfl rfl) <| sq z176 (oBi rfl rfl rfl rfl) <| sq z176 (oAsI rfl rfl) <| nl) ?_
    refine Unw.seq ?_
    refine Go.ret (Unw.ret ?_)
    cases h
    exact Fin_ret (fin_of rfl rF176 rfl (by kernel_rfl))
theorem L_spec_l08DrawBudget {s_0 : S_l00Src} {r : (Int × S_l00Src)} (h : spec_l08DrawBudget s_0 = some r) : FL Try.prog cfg 87 [.ptr true [(.imm, .row 1 (List.map (eK .u8) s_0.code)), (.imm, .sc (.int .i64 s_0.at_)), (.imm, .sc (.int .u64 s_0.seed))]] = some ([(false, [.im 0 (.sc (.int .i64 r.1))])], [.ptr true [(.imm, .row 1 (List.map (eK .u8) r.2.code)), (.imm, .sc (.int .i64 r.2.at_)), (.imm, .sc (.int .u64 r.2.seed))]]) := by
  unfold spec_l08DrawBudget at h
  refine FL_goS (A := [(0, .v false [.mp 0 0 0])]) (B := [(0, some ⟨0, 0, true, true, false, true, [⟨.imm, 0, 1, .row 1 (List.map (eK .u8) s_0.code)⟩, ⟨.imm, 0, 0, .sc (.int .i64 s_0.at_)⟩, ⟨.imm, 0, 0, .sc (.int .u64 s_0.seed)⟩]⟩)]) (nt := 11) rfl rfl Try.func87 rfl rfl rfl rfl ?_
  refine Go.seq ?_
  refine Go.r0 c87 rfl rfl (sq z87 (oAsI rfl rfl) <| nl) ?_
  refine Unw.seq ?_
  refine Go.seq ?_
  refine Go.seq ?_
  obtain ⟨x4, hx4, h⟩ := bs h
  refine Go.r0 c87 rfl rfl (sq z87 (oMv rfl rfl) <| sq z87 (oCa (xs := [.v false [.mp 0 0 0], .v false [.im 0 _]]) (vs := [(false, [.im 0 _])]) (v := .v false [.im 0 _]) (L_spec_l00Src_one hx4) (.inl rfl) rfl kF183_121_2 rfl (ppP rfl rfl rfl (ppC rfl pp0)) rfl rfl (pbP rfl rfl pb0) rfl rfl rfl) <| nl) ?_
  refine Unw.seq ?_
  by_cases hc1 : x4.1 = true
  · rw [if_pos hc1] at h
    refine Go.condT rfl (Iff.rfl.2 hc1) ?_
    refine Go.seq ?_
    obtain ⟨x7, hx7, h⟩ := bs h
    refine Go.r1 c87 rfl rfl (st1 := mk [(0, .v false [.mp 0 0 0])] [(0, some ⟨0, 0, true, true, false, true, [⟨.imm, 0, 1, .row 1 (List.map (eK .u8) x4.2.code)⟩, ⟨.imm, 0, 0, .sc (.int .i64 x4.2.at_)⟩, ⟨.imm, 0, 0, .sc (.int .u64 x4.2.seed)⟩]⟩)]) (by kernel_rfl) (sq z87 (oMv rfl rfl) <| sq z87 (oBS (es := List.map eI ([0, 1, 5, 20000, 20001] : List Int)) rfl sF27 rfl (ptC rfl (fxI fx0) rfl (ptC rfl (fxI fx0) rfl (ptC rfl (fxI fx0) rfl (ptC rfl (fxI fx0) rfl (ptC rfl (fxI fx0) rfl pt0))))) (flat0 rfl fun _ => rfl)) <| sq z87 (oCa (xs := [.v false [.mp 0 0 0], .v false [.own 6 0 0]]) (vs := [(false, [.im 0 _])]) (v := .v false [.im 0 _]) (L_spec_l00Src_among hx7) (.inl rfl) rfl kF99_121_27 rfl (ppP rfl rfl rfl (ppC rfl pp0)) rfl rfl (pbP rfl rfl pb0) rfl rfl rfl) <| sq z87 (oAsI rfl rfl) <| nl) ?_
    refine Unw.seq ?_
    refine Go.ret (Unw.ret ?_)
    cases h
    exact Fin_ret (fin_of rfl rF87 rfl (by kernel_rfl))
  · rw [if_neg hc1] at h
    refine Go.condF rfl (byF Iff.rfl hc1) ?_
    refine Go.skip ?_
    refine Unw.seq ?_
    refine Go.seq ?_
    obtain ⟨x9, hx9, h⟩ := bs h
    refine Go.r1 c87 rfl rfl (st1 := mk [(0, .v false [.mp 0 0 0])] [(0, some ⟨0, 0, true, true, false, true, [⟨.imm, 0, 1, .row 1 (List.map (eK .u8) x4.2.code)⟩, ⟨.imm, 0, 0, .sc (.int .i64 x4.2.at_)⟩, ⟨.imm, 0, 0, .sc (.int .u64 x4.2.seed)⟩]⟩)]) (by kernel_rfl) (sq z87 (oMv rfl rfl) <| sq z87 (oCa (xs := [.v false [.mp 0 0 0], .v false [.im 0 _]]) (vs := [(false, [.im 0 _])]) (v := .v false [.im 0 _]) (L_spec_l00Src_pick hx9) (.inl rfl) rfl kF184_121_2 rfl (ppP rfl rfl rfl (ppC rfl pp0)) rfl rfl (pbP rfl rfl pb0) rfl rfl rfl) <| sq z87 (oBi rfl rfl rfl rfl) <| sq z87 (oAsI rfl rfl) <| nl) ?_
    refine Unw.seq ?_
    refine Go.ret (Unw.ret ?_)
    cases h
    exact Fin_ret (fin_of rfl rF87 rfl (by kernel_rfl))
theorem L_spec_DrawBestGlueOrder {code_0 : (List Int)} {r : ((List S_Bond) × Int × Int)} (h : spec_DrawBestGlueOrder code_0 = some r) : FL Try.prog cfg 79 [.im 2 false [.row 1 (List.map (eK .u8) code_0)]] = some ([(false, [.ow 0 4 (List.map e_S_Bond r.1)]), (false, [.im 0 (.sc (.int .i64 r.2.1))]), (false, [.im 0 (.sc (.int .i64 r.2.2))])], []) := by
  unfold spec_DrawBestGlueOrder at h
  refine FL_goS (A := [(0, .v false [.im 2 (.row 1 (List.map (eK .u8) code_0))])]) (B := [(0, none)]) (nt := 18) rfl rfl Try.func79 rfl rfl rfl rfl ?_
  refine Go.seq ?_
  refine Go.r0 c79 rfl rfl (sq z79 (oAsN rfl rfl eF81) <| sq z79 (oAsI rfl rfl) <| sq z79 (oAsI rfl rfl) <| nl) ?_
  refine Unw.seq ?_
  refine Go.seq ?_
  obtain ⟨x9, hx9, h⟩ := bs h
  refine Go.r0 c79 rfl rfl (sq z79 (oMv rfl rfl) <| sq z79 (oCp (xs := [.v false [.im 2 _]]) (L_spec_l00From hx9) (.inl rfl) rfl kF85_22 rfl (ppC rfl pp0) rfl rfl pb0 rfl) <| sq z79 (oAsP rfl rfl) <| nl) ?_
  refine Unw.seq ?_
  refine Go.seq ?_
  obtain ⟨x11, hx11, h⟩ := bs h
  refine Go.r0 c79 rfl rfl (sq z79 (oMv rfl rfl) <| sq z79 (oCr (xs := [.v false [.mp 9 0 0]]) (vs := [(false, [.own 11 0 0])]) (v := .v false [.own 11 0 0]) (c := ⟨.sh, 0, _⟩) (cs := []) (L_spec_l24DrawList hx11) (.inl rfl) rfl kF175_121 rfl (ppP rfl rfl rfl pp0) rfl rfl (pbP rfl rfl pb0) rfl rfl rfl) <| sq z79 (oAsO rfl rfl rfl rfl rfl) <| nl) ?_
  refine Unw.seq ?_
  refine Go.seq ?_
  obtain ⟨x13, hx13, h⟩ := bs h
  refine Go.r1 c79 rfl rfl (st1 := mk [(5, .v false [.mp 9 0 0]), (6, .v false [.own 6 0 0])] [(6, some ⟨0, 0, false, false, false, false, [⟨.sh, 0, 0, .row 4 (List.map e_S_Bond x11.1)⟩]⟩), (9, some ⟨0, 0, false, true, false, true, [⟨.imm, 0, 2, .row 1 (List.map (eK .u8) x11.2.code)⟩, ⟨.imm, 0, 0, .sc (.int .i64 x11.2.at_)⟩, ⟨.imm, 0, 0, .sc (.int .u64 x11.2.seed)⟩]⟩)]) (by kernel_rfl) (sq z79 (oMv rfl rfl) <| sq z79 (oCa (xs := [.v false [.mp 9 0 0]]) (vs := [(false, [.im 0 _])]) (v := .v false [.im 0 _]) (L_spec_l24DrawPresses hx13) (.inl rfl) rfl kF176_121 rfl (ppP rfl rfl rfl pp0) rfl rfl (pbP rfl rfl pb0) rfl rfl rfl) <| sq z79 (oAsI rfl rfl) <| nl) ?_
  refine Unw.seq ?_
  refine Go.seq ?_
  obtain ⟨x17, hx17, h⟩ := bs h
  refine Go.r1 c79 rfl rfl (st1 := mk [(5, .v false [.mp 9 0 0]), (6, .v false [.own 6 0 0]), (7, iv x13.1)] [(6, some ⟨0, 0, false, false, false, false, [⟨.sh, 0, 0, .row 4 (List.map e_S_Bond x11.1)⟩]⟩), (9, some ⟨0, 0, false, true, false, true, [⟨.imm, 0, 2, .row 1 (List.map (eK .u8) x13.2.code)⟩, ⟨.imm, 0, 0, .sc (.int .i64 x13.2.at_)⟩, ⟨.imm, 0, 0, .sc (.int .u64 x13.2.seed)⟩]⟩)]) (by kernel_rfl) (sq z79 (oMv rfl rfl) <| sq z79 (oMv rfl rfl) <| sq z79 (oMv rfl rfl) <| sq z79 (oCa (xs := [.v false [.mp 9 0 0]]) (vs := [(false, [.im 0 _])]) (v := .v false [.im 0 _]) (L_spec_l08DrawBudget hx17) (.inl rfl) rfl kF87_121 rfl (ppP rfl rfl rfl pp0) rfl rfl (pbP rfl rfl pb0) rfl rfl rfl) <| sq z79 (oAsO rfl rfl rfl rfl rfl) <| sq z79 (oAsI rfl rfl) <| sq z79 (oAsI rfl rfl) <| nl) ?_
  refine Unw.seq ?_
  refine Go.ret (Unw.ret ?_)
  cases h
  exact Fin_ret (fin_of rfl rF79 rfl (by kernel_rfl))
theorem L_impl_IsName {s_0 : ByteArray} {r : Bool} (h : impl_IsName s_0 = some r) : FL Try.prog cfg 250 [.im 2 false [.sc (.string s_0)]] = some ([(false, [.im 0 (.sc (.bool r))])], []) := by
  unfold impl_IsName at h
  refine FL_goS (A := [(0, .v false [.im 2 (.sc (.string s_0))])]) (B := [(0, none)]) (nt := 50) rfl rfl Try.func250 rfl rfl rfl rfl ?_
  refine Go.seq ?_
  refine Go.r0 c250 rfl rfl (sq z250 (oAsI rfl rfl) <| nl) ?_
  refine Unw.seq ?_
  refine Go.seq ?_
  refine Go.seq ?_
  obtain ⟨t_21_m1, hm26, h⟩ := bs h
  refine Go.rX c250 rfl rfl rfl (mk [(0, sv s_0), (21, bv t_21_m1)] []) ?_ ?_
  · by_cases hc1 : (s_0.size : Int) < 1
    · rw [if_pos hc1] at hm26
      cases hm26
      exact ⟨_, sq z250 (oMv rfl rfl) <| sq z250 (oLnS rfl rfl uF9 rfl) <| sq z250 (oBi rfl rfl rfl rfl) <| sq z250 (oMv rfl rfl) <| sgF rfl rfl (iDec.2 hc1) rfl <| sgF rfl rfl (iDec.2 hc1) rfl <| sgF rfl rfl (iDec.2 hc1) rfl <| sq z250 (oPkT rfl rfl (iDec.2 hc1) rfl) <| sq z250 (oMv rfl rfl) <| sgF rfl rfl rfl rfl <| sgF rfl rfl rfl rfl <| sgF rfl rfl rfl rfl <| sq z250 (oPkT rfl rfl rfl rfl) <| sq z250 (oMv rfl rfl) <| sgF rfl rfl rfl rfl <| sgF rfl rfl rfl rfl <| sgF rfl rfl rfl rfl <| sq z250 (oPkT rfl rfl rfl rfl) <| nl, (by kernel_rfl)⟩
    · rw [if_neg hc1] at hm26
      by_cases hc2 : (s_0.size : Int) > 10
      · rw [if_pos hc2] at hm26
        cases hm26
        exact ⟨_, sq z250 (oMv rfl rfl) <| sq z250 (oLnS rfl rfl uF9 rfl) <| sq z250 (oBi rfl rfl rfl rfl) <| sq z250 (oMv rfl rfl) <| sgT z250 rfl rfl (byF iDec hc1) (oMv rfl rfl) <| sgT z250 rfl rfl (byF iDec hc1) (oLnS rfl rfl uF9 rfl) <| sgT z250 rfl rfl (byF iDec hc1) (oBi rfl rfl rfl rfl) <| sq z250 (oPkF rfl rfl (byF iDec hc1) rfl) <| sq z250 (oMv rfl rfl) <| sgF rfl rfl (iDec.2 hc2) rfl <| sgF rfl rfl (iDec.2 hc2) rfl <| sgF rfl rfl (iDec.2 hc2) rfl <| sq z250 (oPkT rfl rfl (iDec.2 hc2) rfl) <| sq z250 (oMv rfl rfl) <| sgF rfl rfl rfl rfl <| sgF rfl rfl rfl rfl <| sgF rfl rfl rfl rfl <| sq z250 (oPkT rfl rfl rfl rfl) <| nl, (by kernel_rfl)⟩
      · rw [if_neg hc2] at hm26
        obtain ⟨x14, hx14, hm26⟩ := bs hm26
        by_cases hc3 : x14 < 97
        · rw [if_pos hc3] at hm26
          cases hm26
          exact ⟨_, sq z250 (oMv rfl rfl) <| sq z250 (oLnS rfl rfl uF9 rfl) <| sq z250 (oBi rfl rfl rfl rfl) <| sq z250 (oMv rfl rfl) <| sgT z250 rfl rfl (byF iDec hc1) (oMv rfl rfl) <| sgT z250 rfl rfl (byF iDec hc1) (oLnS rfl rfl uF9 rfl) <| sgT z250 rfl rfl (byF iDec hc1) (oBi rfl rfl rfl rfl) <| sq z250 (oPkF rfl rfl (byF iDec hc1) rfl) <| sq z250 (oMv rfl rfl) <| sgT z250 rfl rfl (byF iDec hc2) (oMv rfl rfl) <| sgT z250 rfl rfl (byF iDec hc2) (oIx rfl hx14 uF9 rfl rfl) <| sgT z250 rfl rfl (byF iDec hc2) (oBi rfl rfl rfl rfl) <| sq z250 (oPkF rfl rfl (byF iDec hc2) rfl) <| sq z250 (oMv rfl rfl) <| sgF rfl rfl (iDec.2 hc3) rfl <| sgF rfl rfl (iDec.2 hc3) rfl <| sgF rfl rfl (iDec.2 hc3) rfl <| sq z250 (oPkT rfl rfl (iDec.2 hc3) rfl) <| nl, (by kernel_rfl)⟩
        · rw [if_neg hc3] at hm26
          obtain ⟨x19, hx19, hm26⟩ := bs hm26
          cases hm26
          exact ⟨_, sq z250 (oMv rfl rfl) <| sq z250 (oLnS rfl rfl uF9 rfl) <| sq z250 (oBi rfl rfl rfl rfl) <| sq z250 (oMv rfl rfl) <| sgT z250 rfl rfl (byF iDec hc1) (oMv rfl rfl) <| sgT z250 rfl rfl (byF iDec hc1) (oLnS rfl rfl uF9 rfl) <| sgT z250 rfl rfl (byF iDec hc1) (oBi rfl rfl rfl rfl) <| sq z250 (oPkF rfl rfl (byF iDec hc1) rfl) <| sq z250 (oMv rfl rfl) <| sgT z250 rfl rfl (byF iDec hc2) (oMv rfl rfl) <| sgT z250 rfl rfl (byF iDec hc2) (oIx rfl hx14 uF9 rfl rfl) <| sgT z250 rfl rfl (byF iDec hc2) (oBi rfl rfl rfl rfl) <| sq z250 (oPkF rfl rfl (byF iDec hc2) rfl) <| sq z250 (oMv rfl rfl) <| sgT z250 rfl rfl (byF iDec hc3) (oMv rfl rfl) <| sgT z250 rfl rfl (byF iDec hc3) (oIx rfl hx19 uF9 rfl rfl) <| sgT z250 rfl rfl (byF iDec hc3) (oBi rfl rfl rfl rfl) <| sq z250 (oPkF rfl rfl (byF iDec hc3) rfl) <| nl, (by kernel_rfl)⟩
  · refine Unw.seq ?_
    by_cases hc4 : t_21_m1 = true
    · rw [if_pos hc4] at h
      refine Go.condT rfl (Iff.rfl.2 hc4) ?_
      refine Go.seq ?_
      refine Go.r0 c250 rfl rfl (sq z250 (oAsI rfl rfl) <| nl) ?_
      refine Unw.seq ?_
      refine Go.ret (Unw.ret ?_)
      cases h
      exact Fin_ret (fin_of rfl rF250 rfl (by kernel_rfl))
    · rw [if_neg hc4] at h
      refine Go.condF rfl (byF Iff.rfl hc4) ?_
      refine Go.skip ?_
      refine Unw.seq ?_
      refine Go.seq ?_
      refine Go.seq ?_
      refine Go.r0 c250 rfl rfl (sq z250 (oAsI rfl rfl) <| nl) ?_
      refine Unw.seq ?_
      refine Go.block ?_
      obtain ⟨o, hl, h⟩ := bs h
      refine Go.lp c250 rfl _ (fun (i_3_l4 : Int) => mk [(0, sv s_0), (3, iv i_3_l4)] []) (fun (o : (Unit ⊕ Bool)) (p : Ex × St) => match o with | (.inl _) => p.1 = .exit 0 ∧ p.2.norm ([], []) = mk [] [] | (.inr r2) => p.1 = .ret ∧ fin Try.prog cfg 250 Try.f250 [.im 2 false [.sc (.string s_0)]] p.2 = some ([(false, [.im 0 (.sc (.bool r2))])], [])) hl (by kernel_rfl) ?_ ?_ ?_
      · intro o p hp e
        rcases o with u | r2 <;> exact nomatch (hp.1.symm.trans e)
      · rintro i_3_l4 o h
        unfold impl_IsName_l4 at h
        refine Go.seq ?_
        refine Go.seq ?_
        refine Go.r0 c250 rfl rfl (sq z250 (oMv rfl rfl) <| sq z250 (oMv rfl rfl) <| sq z250 (oLnS rfl rfl uF9 rfl) <| sq z250 (oBi rfl rfl rfl rfl) <| nl) ?_
        refine Unw.seq ?_
        by_cases hc19 : i_3_l4 < (s_0.size : Int)
        · rw [if_pos hc19] at h
          refine Go.condT rfl (iDec.2 hc19) ?_
          refine Go.skip ?_
          refine Unw.seq ?_
          refine Go.seq ?_
          refine Go.block ?_
          refine Go.seq ?_
          obtain ⟨x30, hx30, h⟩ := bs h
          obtain ⟨t_49_m6, hm25, h⟩ := bs h
          refine Go.rX c250 rfl rfl rfl (mk [(0, sv s_0), (3, iv i_3_l4), (49, bv t_49_m6)] []) ?_ ?_
          · by_cases hc20 : x30 < 97
            · rw [if_pos hc20] at hm25
              obtain ⟨x41, hx41, hm25⟩ := bs hm25
              by_cases hc21 : x41 < 48
              · rw [if_pos hc21] at hm25
                cases hm25
                exact ⟨_, sq z250 (oMv rfl rfl) <| sq z250 (oMv rfl rfl) <| sq z250 (oIx rfl hx30 uF9 rfl rfl) <| sq z250 (oBi rfl rfl rfl rfl) <| sq z250 (oMv rfl rfl) <| sgF rfl rfl (iDec.2 hc20) rfl <| sgF rfl rfl (iDec.2 hc20) rfl <| sgF rfl rfl (iDec.2 hc20) rfl <| sgF rfl rfl (iDec.2 hc20) rfl <| sq z250 (oPkT rfl rfl (iDec.2 hc20) rfl) <| sq z250 (oMv rfl rfl) <| sgT z250 rfl rfl rfl (oMv rfl rfl) <| sgT z250 rfl rfl rfl (oMv rfl rfl) <| sgT z250 rfl rfl rfl (oIx rfl hx41 uF9 rfl rfl) <| sgT z250 rfl rfl rfl (oBi rfl rfl rfl rfl) <| sgT z250 rfl rfl rfl (oMv rfl rfl) <| sgF rfl rfl (iDec.2 hc21) rfl <| sgF rfl rfl (iDec.2 hc21) rfl <| sgF rfl rfl (iDec.2 hc21) rfl <| sgF rfl rfl (iDec.2 hc21) rfl <| sgT z250 rfl rfl rfl (oPkT rfl rfl (iDec.2 hc21) rfl) <| sq z250 (oPkT rfl rfl rfl rfl) <| nl, (by kernel_rfl)⟩
              · rw [if_neg hc21] at hm25
                obtain ⟨x46, hx46, hm25⟩ := bs hm25
                cases hm25
                exact ⟨_, sq z250 (oMv rfl rfl) <| sq z250 (oMv rfl rfl) <| sq z250 (oIx rfl hx30 uF9 rfl rfl) <| sq z250 (oBi rfl rfl rfl rfl) <| sq z250 (oMv rfl rfl) <| sgF rfl rfl (iDec.2 hc20) rfl <| sgF rfl rfl (iDec.2 hc20) rfl <| sgF rfl rfl (iDec.2 hc20) rfl <| sgF rfl rfl (iDec.2 hc20) rfl <| sq z250 (oPkT rfl rfl (iDec.2 hc20) rfl) <| sq z250 (oMv rfl rfl) <| sgT z250 rfl rfl rfl (oMv rfl rfl) <| sgT z250 rfl rfl rfl (oMv rfl rfl) <| sgT z250 rfl rfl rfl (oIx rfl hx41 uF9 rfl rfl) <| sgT z250 rfl rfl rfl (oBi rfl rfl rfl rfl) <| sgT z250 rfl rfl rfl (oMv rfl rfl) <| sgT z250 rfl rfl (byF iDec hc21) (oMv rfl rfl) <| sgT z250 rfl rfl (byF iDec hc21) (oMv rfl rfl) <| sgT z250 rfl rfl (byF iDec hc21) (oIx rfl hx46 uF9 rfl rfl) <| sgT z250 rfl rfl (byF iDec hc21) (oBi rfl rfl rfl rfl) <| sgT z250 rfl rfl rfl (oPkF rfl rfl (byF iDec hc21) rfl) <| sq z250 (oPkT rfl rfl rfl rfl) <| nl, (by kernel_rfl)⟩
            · rw [if_neg hc20] at hm25
              obtain ⟨x35, hx35, hm25⟩ := bs hm25
              by_cases hc22 : x35 > 122
              · rw [if_pos hc22] at hm25
                obtain ⟨x41, hx41, hm25⟩ := bs hm25
                by_cases hc23 : x41 < 48
                · rw [if_pos hc23] at hm25
                  cases hm25
                  exact ⟨_, sq z250 (oMv rfl rfl) <| sq z250 (oMv rfl rfl) <| sq z250 (oIx rfl hx30 uF9 rfl rfl) <| sq z250 (oBi rfl rfl rfl rfl) <| sq z250 (oMv rfl rfl) <| sgT z250 rfl rfl (byF iDec hc20) (oMv rfl rfl) <| sgT z250 rfl rfl (byF iDec hc20) (oMv rfl rfl) <| sgT z250 rfl rfl (byF iDec hc20) (oIx rfl hx35 uF9 rfl rfl) <| sgT z250 rfl rfl (byF iDec hc20) (oBi rfl rfl rfl rfl) <| sq z250 (oPkF rfl rfl (byF iDec hc20) rfl) <| sq z250 (oMv rfl rfl) <| sgT z250 rfl rfl (iDec.2 hc22) (oMv rfl rfl) <| sgT z250 rfl rfl (iDec.2 hc22) (oMv rfl rfl) <| sgT z250 rfl rfl (iDec.2 hc22) (oIx rfl hx41 uF9 rfl rfl) <| sgT z250 rfl rfl (iDec.2 hc22) (oBi rfl rfl rfl rfl) <| sgT z250 rfl rfl (iDec.2 hc22) (oMv rfl rfl) <| sgF rfl rfl (iDec.2 hc23) rfl <| sgF rfl rfl (iDec.2 hc23) rfl <| sgF rfl rfl (iDec.2 hc23) rfl <| sgF rfl rfl (iDec.2 hc23) rfl <| sgT z250 rfl rfl (iDec.2 hc22) (oPkT rfl rfl (iDec.2 hc23) rfl) <| sq z250 (oPkT rfl rfl (iDec.2 hc22) rfl) <| nl, (by kernel_rfl)⟩
                · rw [if_neg hc23] at hm25
                  obtain ⟨x46, hx46, hm25⟩ := bs hm25
                  cases hm25
                  exact ⟨_, sq z250 (oMv rfl rfl) <| sq z250 (oMv rfl rfl) <| sq z250 (oIx rfl hx30 uF9 rfl rfl) <| sq z250 (oBi rfl rfl rfl rfl) <| sq z250 (oMv rfl rfl) <| sgT z250 rfl rfl (byF iDec hc20) (oMv rfl rfl) <| sgT z250 rfl rfl (byF iDec hc20) (oMv rfl rfl) <| sgT z250 rfl rfl (byF iDec hc20) (oIx rfl hx35 uF9 rfl rfl) <| sgT z250 rfl rfl (byF iDec hc20) (oBi rfl rfl rfl rfl) <| sq z250 (oPkF rfl rfl (byF iDec hc20) rfl) <| sq z250 (oMv rfl rfl) <| sgT z250 rfl rfl (iDec.2 hc22) (oMv rfl rfl) <| sgT z250 rfl rfl (iDec.2 hc22) (oMv rfl rfl) <| sgT z250 rfl rfl (iDec.2 hc22) (oIx rfl hx41 uF9 rfl rfl) <| sgT z250 rfl rfl (iDec.2 hc22) (oBi rfl rfl rfl rfl) <| sgT z250 rfl rfl (iDec.2 hc22) (oMv rfl rfl) <| sgT z250 rfl rfl (byF iDec hc23) (oMv rfl rfl) <| sgT z250 rfl rfl (byF iDec hc23) (oMv rfl rfl) <| sgT z250 rfl rfl (byF iDec hc23) (oIx rfl hx46 uF9 rfl rfl) <| sgT z250 rfl rfl (byF iDec hc23) (oBi rfl rfl rfl rfl) <| sgT z250 rfl rfl (iDec.2 hc22) (oPkF rfl rfl (byF iDec hc23) rfl) <| sq z250 (oPkT rfl rfl (iDec.2 hc22) rfl) <| nl, (by kernel_rfl)⟩
              · rw [if_neg hc22] at hm25
                cases hm25
                exact ⟨_, sq z250 (oMv rfl rfl) <| sq z250 (oMv rfl rfl) <| sq z250 (oIx rfl hx30 uF9 rfl rfl) <| sq z250 (oBi rfl rfl rfl rfl) <| sq z250 (oMv rfl rfl) <| sgT z250 rfl rfl (byF iDec hc20) (oMv rfl rfl) <| sgT z250 rfl rfl (byF iDec hc20) (oMv rfl rfl) <| sgT z250 rfl rfl (byF iDec hc20) (oIx rfl hx35 uF9 rfl rfl) <| sgT z250 rfl rfl (byF iDec hc20) (oBi rfl rfl rfl rfl) <| sq z250 (oPkF rfl rfl (byF iDec hc20) rfl) <| sq z250 (oMv rfl rfl) <| sgF rfl rfl (byF iDec hc22) rfl <| sgF rfl rfl (byF iDec hc22) rfl <| sgF rfl rfl (byF iDec hc22) rfl <| sgF rfl rfl (byF iDec hc22) rfl <| sgF rfl rfl (byF iDec hc22) rfl <| sgU rfl rfl rfl <| sgU rfl rfl rfl <| sgU rfl rfl rfl <| sgU rfl rfl rfl <| sgF rfl rfl (byF iDec hc22) rfl <| sq z250 (oPkF rfl rfl (byF iDec hc22) rfl) <| nl, (by kernel_rfl)⟩
          · refine Unw.seq ?_
            by_cases hc24 : t_49_m6 = true
            · rw [if_pos hc24] at h
              refine Go.condT rfl (Iff.rfl.2 hc24) ?_
              refine Go.seq ?_
              refine Go.r0 c250 rfl rfl (sq z250 (oAsI rfl rfl) <| nl) ?_
              refine Unw.seq ?_
              refine Go.ret (Unw.ret ?_)
              cases h
              exact ⟨rfl, (fin_of rfl rF250 rfl (by kernel_rfl))⟩
            · rw [if_neg hc24] at h
              refine Go.condF rfl (byF Iff.rfl hc24) ?_
              refine Go.skip ?_
              refine Unw.blk ?_
              refine Unw.seq ?_
              refine Go.r0 c250 rfl rfl (sq z250 (oMv rfl rfl) <| sq z250 (oBi rfl rfl rfl rfl) <| sq z250 (oAsI rfl rfl) <| nl) ?_
              refine Unw.nil ?_
              cases h
              exact ⟨rfl, (by kernel_rfl)⟩
        · rw [if_neg hc19] at h
          refine Go.condF rfl (byF iDec hc19) ?_
          refine Go.exit ?_
          refine Unw.seqx ?_
          refine Unw.nil ?_
          cases h
          exact ⟨rfl, (by kernel_rfl)⟩
      · rintro ⟨e, st⟩ hp
        rcases o with u | r2
        · dsimp only at h
          obtain ⟨he, hst⟩ := hp
          obtain rfl : e = .exit 0 := he
          refine Unw.blkx ?_
          refine Unw.seq ?_
          refine Go.seq ?_
          refine Go.r1 c250 rfl rfl hst (sq z250 (oAsI rfl rfl) <| nl) ?_
          refine Unw.seq ?_
          refine Go.ret (Unw.ret ?_)
          cases h
          exact Fin_ret (fin_of rfl rF250 rfl (by kernel_rfl))
        · dsimp only at h
          obtain ⟨he, hfin⟩ := hp
          obtain rfl : e = .ret := he
          cases h
          exact Unw.ret (Fin_ret hfin)
theorem L_impl_within {n_0 : Int} {low_1 : Int} {high_2 : Int} {r : Bool} (h : impl_within n_0 low_1 high_2 = some r) : FL Try.prog cfg 92 [.im 2 false [.sc (.int .i64 n_0)], .im 2 false [.sc (.int .i64 low_1)], .im 2 false [.sc (.int .i64 high_2)]] = some ([(false, [.im 0 (.sc (.bool r))])], []) := by
  unfold impl_within at h
  refine FL_goS (A := [(0, .v false [.im 2 (.sc (.int .i64 n_0))]), (1, .v false [.im 2 (.sc (.int .i64 low_1))]), (2, .v false [.im 2 (.sc (.int .i64 high_2))])]) (B := [(0, none), (1, none), (2, none)]) (nt := 15) rfl rfl Try.func92 rfl rfl rfl rfl ?_
  refine Go.seq ?_
  refine Go.r0 c92 rfl rfl (sq z92 (oAsI rfl rfl) <| nl) ?_
  refine Unw.seq ?_
  refine Go.seq ?_
  refine Go.rX c92 rfl rfl rfl (mk [(6, bv ((decide (n_0 ≥ low_1)) && (decide (n_0 ≤ high_2))))] []) ?_ ?_
  · by_cases hc1 : n_0 ≥ low_1
    · exact ⟨_, sq z92 (oMv rfl rfl) <| sq z92 (oMv rfl rfl) <| sq z92 (oBi rfl rfl rfl rfl) <| sq z92 (oMv rfl rfl) <| sgT z92 rfl rfl (iDec.2 hc1) (oMv rfl rfl) <| sgT z92 rfl rfl (iDec.2 hc1) (oMv rfl rfl) <| sgT z92 rfl rfl (iDec.2 hc1) (oBi rfl rfl rfl rfl) <| sq z92 (oPkT rfl rfl (iDec.2 hc1) rfl) <| sq z92 (oAsI rfl rfl) <| nl, (Eq.trans (b := (fun t_6_m1 : Bool => mk [(6, bv t_6_m1)] []) (decide (n_0 ≤ high_2))) (by kernel_rfl) (congrArg (fun t_6_m1 : Bool => mk [(6, bv t_6_m1)] []) (by first | rfl | (simp [(iDec.2 hc1)]; done) | (simp [(iDec.2 hc1)]; omega))))⟩
    · exact ⟨_, sq z92 (oMv rfl rfl) <| sq z92 (oMv rfl rfl) <| sq z92 (oBi rfl rfl rfl rfl) <| sq z92 (oMv rfl rfl) <| sgF rfl rfl (byF iDec hc1) rfl <| sgF rfl rfl (byF iDec hc1) rfl <| sgF rfl rfl (byF iDec hc1) rfl <| sq z92 (oPkF rfl rfl (byF iDec hc1) rfl) <| sq z92 (oAsI rfl rfl) <| nl, (Eq.trans (b := (fun t_6_m1 : Bool => mk [(6, bv t_6_m1)] []) false) (by kernel_rfl) (congrArg (fun t_6_m1 : Bool => mk [(6, bv t_6_m1)] []) (by first | rfl | (simp [(byF iDec hc1)]; done) | (simp [(byF iDec hc1)]; omega))))⟩
  · refine Unw.seq ?_
    refine Go.ret (Unw.ret ?_)
    cases h
    exact Fin_ret (fin_of rfl rF92 rfl (by kernel_rfl))
theorem L_impl_ValidBond {b_0 : S_Bond} {r : Bool} (h : impl_ValidBond b_0 = some r) : FL Try.prog cfg 263 [.im 2 true [.sc (.string b_0.Name), .sc (.int .i64 b_0.Spread), .sc (.int .i64 b_0.Open), .sc (.int .i64 b_0.Press)]] = some ([(false, [.im 0 (.sc (.bool r))])], []) := by
  unfold impl_ValidBond at h
  refine FL_goS (A := [(0, .v true [.im 2 (.sc (.string b_0.Name)), .im 2 (.sc (.int .i64 b_0.Spread)), .im 2 (.sc (.int .i64 b_0.Open)), .im 2 (.sc (.int .i64 b_0.Press))])]) (B := [(0, none)]) (nt := 23) rfl rfl Try.func263 rfl rfl rfl rfl ?_
  refine Go.seq ?_
  refine Go.r0 c263 rfl rfl (sq z263 (oBx rfl tF209 rfl (tkI (tkI (tkI (tkI tk0))))) <| sq z263 (oAsI rfl rfl) <| nl) ?_
  refine Unw.seq ?_
  refine Go.seq ?_
  obtain ⟨x5, hx5, h⟩ := bs h
  obtain ⟨t_2_m1, hm4, h⟩ := bs h
  refine Go.rX c263 rfl rfl rfl (mk [(2, bv t_2_m1)] []) ?_ ?_
  · by_cases hc1 : x5 = true
    · rw [if_pos hc1] at hm4
      obtain ⟨x9, hx9, hm4⟩ := bs hm4
      by_cases hc2 : x9 = true
      · rw [if_pos hc2] at hm4
        obtain ⟨x16, hx16, hm4⟩ := bs hm4
        by_cases hc3 : x16 = true
        · rw [if_pos hc3] at hm4
          obtain ⟨x21, hx21, hm4⟩ := bs hm4
          cases hm4
          exact ⟨_, sq z263 (oFA (r' := .mp 1 0 0) rfl fF209_0 rfl rfl) <| sq z263 (oLd (cs := [.im 0 _]) rfl tF9 rfl rfl) <| sq z263 (oCa (xs := [.v false [.im 0 _]]) (vs := [(false, [.im 0 _])]) (v := .v false [.im 0 _]) (L_impl_IsName hx5) (.inl rfl) rfl kF250_9 rfl (ppC rfl pp0) rfl rfl pb0 rfl rfl rfl) <| sq z263 (oMv rfl rfl) <| sgT z263 rfl rfl (Iff.rfl.2 hc1) (oFA (r' := .mp 1 0 1) rfl fF209_1 rfl rfl) <| sgT z263 rfl rfl (Iff.rfl.2 hc1) (oLd (cs := [.im 0 _]) rfl tF2 rfl rfl) <| sgT z263 rfl rfl (Iff.rfl.2 hc1) (oCa (xs := [.v false [.im 0 _], .v false [.im 0 _], .v false [.im 0 _]]) (vs := [(false, [.im 0 _])]) (v := .v false [.im 0 _]) (L_impl_within hx9) (.inl rfl) rfl kF92_2_2_2 rfl (ppC rfl (ppC rfl (ppC rfl pp0))) rfl rfl pb0 rfl rfl rfl) <| sq z263 (oPkT rfl rfl (Iff.rfl.2 hc1) rfl) <| sq z263 (oMv rfl rfl) <| sgT z263 rfl rfl (Iff.rfl.2 hc2) (oFA (r' := .mp 1 0 2) rfl fF209_2 rfl rfl) <| sgT z263 rfl rfl (Iff.rfl.2 hc2) (oLd (cs := [.im 0 _]) rfl tF2 rfl rfl) <| sgT z263 rfl rfl (Iff.rfl.2 hc2) (oFA (r' := .mp 1 0 1) rfl fF209_1 rfl rfl) <| sgT z263 rfl rfl (Iff.rfl.2 hc2) (oLd (cs := [.im 0 _]) rfl tF2 rfl rfl) <| sgT z263 rfl rfl (Iff.rfl.2 hc2) (oCa (xs := [.v false [.im 0 _], .v false [.im 0 _], .v false [.im 0 _]]) (vs := [(false, [.im 0 _])]) (v := .v false [.im 0 _]) (L_impl_within hx16) (.inl rfl) rfl kF92_2_2_2 rfl (ppC rfl (ppC rfl (ppC rfl pp0))) rfl rfl pb0 rfl rfl rfl) <| sq z263 (oPkT rfl rfl (Iff.rfl.2 hc2) rfl) <| sq z263 (oMv rfl rfl) <| sgT z263 rfl rfl (Iff.rfl.2 hc3) (oFA (r' := .mp 1 0 3) rfl fF209_3 rfl rfl) <| sgT z263 rfl rfl (Iff.rfl.2 hc3) (oLd (cs := [.im 0 _]) rfl tF2 rfl rfl) <| sgT z263 rfl rfl (Iff.rfl.2 hc3) (oCa (xs := [.v false [.im 0 _], .v false [.im 0 _], .v false [.im 0 _]]) (vs := [(false, [.im 0 _])]) (v := .v false [.im 0 _]) (L_impl_within hx21) (.inl rfl) rfl kF92_2_2_2 rfl (ppC rfl (ppC rfl (ppC rfl pp0))) rfl rfl pb0 rfl rfl rfl) <| sq z263 (oPkT rfl rfl (Iff.rfl.2 hc3) rfl) <| sq z263 (oAsI rfl rfl) <| nl, (by kernel_rfl)⟩
        · rw [if_neg hc3] at hm4
          cases hm4
          exact ⟨_, sq z263 (oFA (r' := .mp 1 0 0) rfl fF209_0 rfl rfl) <| sq z263 (oLd (cs := [.im 0 _]) rfl tF9 rfl rfl) <| sq z263 (oCa (xs := [.v false [.im 0 _]]) (vs := [(false, [.im 0 _])]) (v := .v false [.im 0 _]) (L_impl_IsName hx5) (.inl rfl) rfl kF250_9 rfl (ppC rfl pp0) rfl rfl pb0 rfl rfl rfl) <| sq z263 (oMv rfl rfl) <| sgT z263 rfl rfl (Iff.rfl.2 hc1) (oFA (r' := .mp 1 0 1) rfl fF209_1 rfl rfl) <| sgT z263 rfl rfl (Iff.rfl.2 hc1) (oLd (cs := [.im 0 _]) rfl tF2 rfl rfl) <| sgT z263 rfl rfl (Iff.rfl.2 hc1) (oCa (xs := [.v false [.im 0 _], .v false [.im 0 _], .v false [.im 0 _]]) (vs := [(false, [.im 0 _])]) (v := .v false [.im 0 _]) (L_impl_within hx9) (.inl rfl) rfl kF92_2_2_2 rfl (ppC rfl (ppC rfl (ppC rfl pp0))) rfl rfl pb0 rfl rfl rfl) <| sq z263 (oPkT rfl rfl (Iff.rfl.2 hc1) rfl) <| sq z263 (oMv rfl rfl) <| sgT z263 rfl rfl (Iff.rfl.2 hc2) (oFA (r' := .mp 1 0 2) rfl fF209_2 rfl rfl) <| sgT z263 rfl rfl (Iff.rfl.2 hc2) (oLd (cs := [.im 0 _]) rfl tF2 rfl rfl) <| sgT z263 rfl rfl (Iff.rfl.2 hc2) (oFA (r' := .mp 1 0 1) rfl fF209_1 rfl rfl) <| sgT z263 rfl rfl (Iff.rfl.2 hc2) (oLd (cs := [.im 0 _]) rfl tF2 rfl rfl) <| sgT z263 rfl rfl (Iff.rfl.2 hc2) (oCa (xs := [.v false [.im 0 _], .v false [.im 0 _], .v false [.im 0 _]]) (vs := [(false, [.im 0 _])]) (v := .v false [.im 0 _]) (L_impl_within hx16) (.inl rfl) rfl kF92_2_2_2 rfl (ppC rfl (ppC rfl (ppC rfl pp0))) rfl rfl pb0 rfl rfl rfl) <| sq z263 (oPkT rfl rfl (Iff.rfl.2 hc2) rfl) <| sq z263 (oMv rfl rfl) <| sgF rfl rfl (byF Iff.rfl hc3) rfl <| sgF rfl rfl (byF Iff.rfl hc3) rfl <| sgF rfl rfl (byF Iff.rfl hc3) rfl <| sq z263 (oPkF rfl rfl (byF Iff.rfl hc3) rfl) <| sq z263 (oAsI rfl rfl) <| nl, (by kernel_rfl)⟩
      · rw [if_neg hc2] at hm4
        cases hm4
        exact ⟨_, sq z263 (oFA (r' := .mp 1 0 0) rfl fF209_0 rfl rfl) <| sq z263 (oLd (cs := [.im 0 _]) rfl tF9 rfl rfl) <| sq z263 (oCa (xs := [.v false [.im 0 _]]) (vs := [(false, [.im 0 _])]) (v := .v false [.im 0 _]) (L_impl_IsName hx5) (.inl rfl) rfl kF250_9 rfl (ppC rfl pp0) rfl rfl pb0 rfl rfl rfl) <| sq z263 (oMv rfl rfl) <| sgT z263 rfl rfl (Iff.rfl.2 hc1) (oFA (r' := .mp 1 0 1) rfl fF209_1 rfl rfl) <| sgT z263 rfl rfl (Iff.rfl.2 hc1) (oLd (cs := [.im 0 _]) rfl tF2 rfl rfl) <| sgT z263 rfl rfl (Iff.rfl.2 hc1) (oCa (xs := [.v false [.im 0 _], .v false [.im 0 _], .v false [.im 0 _]]) (vs := [(false, [.im 0 _])]) (v := .v false [.im 0 _]) (L_impl_within hx9) (.inl rfl) rfl kF92_2_2_2 rfl (ppC rfl (ppC rfl (ppC rfl pp0))) rfl rfl pb0 rfl rfl rfl) <| sq z263 (oPkT rfl rfl (Iff.rfl.2 hc1) rfl) <| sq z263 (oMv rfl rfl) <| sgF rfl rfl (byF Iff.rfl hc2) rfl <| sgF rfl rfl (byF Iff.rfl hc2) rfl <| sgF rfl rfl (byF Iff.rfl hc2) rfl <| sgF rfl rfl (byF Iff.rfl hc2) rfl <| sgF rfl rfl (byF Iff.rfl hc2) rfl <| sq z263 (oPkF rfl rfl (byF Iff.rfl hc2) rfl) <| sq z263 (oMv rfl rfl) <| sgF rfl rfl rfl rfl <| sgF rfl rfl rfl rfl <| sgF rfl rfl rfl rfl <| sq z263 (oPkF rfl rfl rfl rfl) <| sq z263 (oAsI rfl rfl) <| nl, (by kernel_rfl)⟩
    · rw [if_neg hc1] at hm4
      cases hm4
      exact ⟨_, sq z263 (oFA (r' := .mp 1 0 0) rfl fF209_0 rfl rfl) <| sq z263 (oLd (cs := [.im 0 _]) rfl tF9 rfl rfl) <| sq z263 (oCa (xs := [.v false [.im 0 _]]) (vs := [(false, [.im 0 _])]) (v := .v false [.im 0 _]) (L_impl_IsName hx5) (.inl rfl) rfl kF250_9 rfl (ppC rfl pp0) rfl rfl pb0 rfl rfl rfl) <| sq z263 (oMv rfl rfl) <| sgF rfl rfl (byF Iff.rfl hc1) rfl <| sgF rfl rfl (byF Iff.rfl hc1) rfl <| sgF rfl rfl (byF Iff.rfl hc1) rfl <| sq z263 (oPkF rfl rfl (byF Iff.rfl hc1) rfl) <| sq z263 (oMv rfl rfl) <| sgF rfl rfl rfl rfl <| sgF rfl rfl rfl rfl <| sgF rfl rfl rfl rfl <| sgF rfl rfl rfl rfl <| sgF rfl rfl rfl rfl <| sq z263 (oPkF rfl rfl rfl rfl) <| sq z263 (oMv rfl rfl) <| sgF rfl rfl rfl rfl <| sgF rfl rfl rfl rfl <| sgF rfl rfl rfl rfl <| sq z263 (oPkF rfl rfl rfl rfl) <| sq z263 (oAsI rfl rfl) <| nl, (by kernel_rfl)⟩
  · refine Unw.seq ?_
    refine Go.ret (Unw.ret ?_)
    cases h
    exact Fin_ret (fin_of rfl rF263 rfl (by kernel_rfl))
theorem L_impl_ValidBonds {list_0 : (List S_Bond)} {r : Bool} (h : impl_ValidBonds list_0 = some r) : FL Try.prog cfg 219 [.im 2 false [.row 4 (List.map e_S_Bond list_0)]] = some ([(false, [.im 0 (.sc (.bool r))])], []) := by
  unfold impl_ValidBonds at h
  refine FL_goS (A := [(0, .v false [.im 2 (.row 4 (List.map e_S_Bond list_0))])]) (B := [(0, none)]) (nt := 34) rfl rfl Try.func219 rfl rfl rfl rfl ?_
  refine Go.seq ?_
  refine Go.r0 c219 rfl rfl (sq z219 (oAsI rfl rfl) <| nl) ?_
  refine Unw.seq ?_
  refine Go.seq ?_
  refine Go.seq ?_
  refine Go.r0 c219 rfl rfl (sq z219 (oMv rfl rfl) <| sq z219 (oLnI rfl rfl uF81 rfl) <| sq z219 (oMv rfl rfl) <| nl) ?_
  refine Unw.seq ?_
  refine Go.block ?_
  obtain ⟨o, hl, h⟩ := bs h
  refine Go.lp c219 rfl _ (fun (t_7_l2 : Int) => mk [(0, .v false [.im 2 (.row 4 (List.map e_S_Bond list_0))]), (5, .v false [.im 2 (.row 4 (List.map e_S_Bond list_0))]), (6, iv (list_0.length : Int)), (7, iv t_7_l2)] []) (fun (o : (Unit ⊕ Bool)) (p : Ex × St) => match o with | (.inl _) => p.1 = .exit 0 ∧ p.2.norm ([0], []) = mk [(0, .v false [.im 2 (.row 4 (List.map e_S_Bond list_0))])] [] | (.inr r2) => p.1 = .ret ∧ fin Try.prog cfg 219 Try.f219 [.im 2 false [.row 4 (List.map e_S_Bond list_0)]] p.2 = some ([(false, [.im 0 (.sc (.bool r2))])], [])) hl (by kernel_rfl) ?_ ?_ ?_
  · intro o p hp e
    rcases o with u | r2 <;> exact nomatch (hp.1.symm.trans e)
  · rintro t_7_l2 o h
    unfold impl_ValidBonds_l2 at h
    refine Go.seq ?_
    refine Go.r0 c219 rfl rfl (sq z219 (oBi rfl rfl rfl rfl) <| nl) ?_
    refine Unw.seq ?_
    refine Go.seq ?_
    by_cases hc11 : t_7_l2 < (list_0.length : Int)
    · rw [if_pos hc11] at h
      refine Go.condT rfl (iDec.2 hc11) ?_
      refine Go.skip ?_
      refine Unw.seq ?_
      refine Go.seq ?_
      refine Go.block ?_
      refine Go.seq ?_
      obtain ⟨x10, hx10, h⟩ := bs h
      refine Go.r0 c219 rfl rfl (sq z219 (oMv rfl rfl) <| sq z219 (oIAI rfl hx10 sF81 rfl rfl) <| sq z219 (oLd (cs := [.im 2 _, .im 2 _, .im 2 _, .im 2 _]) rfl tF209 rfl rfl) <| sq z219 (oAl rfl tF209 (tkI (tkI (tkI (tkI tk0))))) <| sq z219 (oAsI rfl rfl) <| sq z219 (oSt tF209 rfl rfl rfl (tkI (tkI (tkI (tkI tk0)))) rfl rfl rfl) <| nl) ?_
      refine Unw.seq ?_
      refine Go.seq ?_
      obtain ⟨x13, hx13, h⟩ := bs h
      obtain ⟨t_29_m4, hm15, h⟩ := bs h
      refine Go.dr c219 rfl rfl rfl (st1 := mk [(0, .v false [.im 2 (.row 4 (List.map e_S_Bond list_0))]), (3, iv t_7_l2), (4, .v false [.mp 4 0 0]), (5, .v false [.im 2 (.row 4 (List.map e_S_Bond list_0))]), (6, iv (list_0.length : Int)), (7, iv t_7_l2)] [(4, some ⟨0, 0, false, true, false, true, [⟨.imm, 0, 0, .sc (.string x10.Name)⟩, ⟨.imm, 0, 0, .sc (.int .i64 x10.Spread)⟩, ⟨.imm, 0, 0, .sc (.int .i64 x10.Open)⟩, ⟨.imm, 0, 0, .sc (.int .i64 x10.Press)⟩]⟩)]) (by kernel_rfl) (mk [(0, .v false [.im 2 (.row 4 (List.map e_S_Bond list_0))]), (5, .v false [.im 2 (.row 4 (List.map e_S_Bond list_0))]), (6, iv (list_0.length : Int)), (7, iv t_7_l2), (29, bv t_29_m4)] []) ?_ ?_
      · by_cases hc12 : x13 = true
        · rw [if_pos hc12] at hm15
          by_cases hc13 : t_7_l2 > 0
          · rw [if_pos hc13] at hm15
            obtain ⟨x22, hx22, hm15⟩ := bs hm15
            cases hm15
            exact sT rfl (dN z219 rfl (oLd (cs := [.im 0 _, .im 0 _, .im 0 _, .im 0 _]) rfl tF209 rfl rfl)) <| sS (dN z219 rfl (oCa (xs := [.v true [.im 0 _, .im 0 _, .im 0 _, .im 0 _]]) (vs := [(false, [.im 0 _])]) (v := .v false [.im 0 _]) (L_impl_ValidBond hx13) (.inl rfl) rfl kF263_209 rfl (ppC rfl pp0) rfl rfl pb0 rfl rfl rfl)) trivial (sT rfl (dN z219 rfl (oUn rfl rfl rfl)) <| sT rfl (dN z219 rfl (oMv rfl rfl)) <| sT rfl (dT z219 rfl rfl rfl (nF (Iff.rfl.2 hc12)) (oMv rfl rfl)) <| sT rfl (dT z219 rfl rfl rfl (nF (Iff.rfl.2 hc12)) (oBi rfl rfl rfl rfl)) <| sT rfl (dT z219 rfl rfl rfl (nF (Iff.rfl.2 hc12)) (oMv rfl rfl)) <| sT rfl (dT z219 rfl rfl rfl (iDec.2 hc13) (oMv rfl rfl)) <| sT rfl (dT z219 rfl rfl rfl (iDec.2 hc13) (oMv rfl rfl)) <| sT rfl (dT z219 rfl rfl rfl (iDec.2 hc13) (oBi rfl rfl rfl rfl)) <| sT rfl (dT z219 rfl rfl rfl (iDec.2 hc13) (oIAI rfl hx22 sF81 rfl rfl)) <| sT rfl (dT z219 rfl rfl rfl (iDec.2 hc13) (oFA (r' := .im 2 _) rfl fF209_0 rfl rfl)) <| sT rfl (dT z219 rfl rfl rfl (iDec.2 hc13) (oLd (cs := [.im 2 _]) rfl tF9 rfl rfl)) <| sT rfl (dT z219 rfl rfl rfl (iDec.2 hc13) (oFA (r' := .mp 4 0 0) rfl fF209_0 rfl rfl)) <| sT rfl (dT z219 rfl rfl rfl (iDec.2 hc13) (oLd (cs := [.im 0 _]) rfl tF9 rfl rfl)) <| sT rfl (dT z219 rfl rfl rfl (iDec.2 hc13) (oBi rfl rfl rfl rfl)) <| sT rfl (dT z219 rfl rfl rfl (nF (Iff.rfl.2 hc12)) (oPkT rfl rfl (iDec.2 hc13) rfl)) <| sT rfl (dN z219 rfl (oPkF rfl rfl (nF (Iff.rfl.2 hc12)) rfl)) <| sD (by kernel_rfl))
          · rw [if_neg hc13] at hm15
            cases hm15
            exact sT rfl (dN z219 rfl (oLd (cs := [.im 0 _, .im 0 _, .im 0 _, .im 0 _]) rfl tF209 rfl rfl)) <| sS (dN z219 rfl (oCa (xs := [.v true [.im 0 _, .im 0 _, .im 0 _, .im 0 _]]) (vs := [(false, [.im 0 _])]) (v := .v false [.im 0 _]) (L_impl_ValidBond hx13) (.inl rfl) rfl kF263_209 rfl (ppC rfl pp0) rfl rfl pb0 rfl rfl rfl)) trivial (sT rfl (dN z219 rfl (oUn rfl rfl rfl)) <| sT rfl (dN z219 rfl (oMv rfl rfl)) <| sT rfl (dT z219 rfl rfl rfl (nF (Iff.rfl.2 hc12)) (oMv rfl rfl)) <| sT rfl (dT z219 rfl rfl rfl (nF (Iff.rfl.2 hc12)) (oBi rfl rfl rfl rfl)) <| sT rfl (dT z219 rfl rfl rfl (nF (Iff.rfl.2 hc12)) (oMv rfl rfl)) <| sT rfl (dF rfl rfl rfl (byF iDec hc13) rfl) <| sT rfl (dF rfl rfl rfl (byF iDec hc13) rfl) <| sT rfl (dF rfl rfl rfl (byF iDec hc13) rfl) <| sT rfl (dF rfl rfl rfl (byF iDec hc13) rfl) <| sT rfl (dF rfl rfl rfl (byF iDec hc13) rfl) <| sT rfl (dF rfl rfl rfl (byF iDec hc13) rfl) <| sT rfl (dF rfl rfl rfl (byF iDec hc13) rfl) <| sT rfl (dF rfl rfl rfl (byF iDec hc13) rfl) <| sT rfl (dF rfl rfl rfl (byF iDec hc13) rfl) <| sT rfl (dT z219 rfl rfl rfl (nF (Iff.rfl.2 hc12)) (oPkF rfl rfl (byF iDec hc13) rfl)) <| sT rfl (dN z219 rfl (oPkF rfl rfl (nF (Iff.rfl.2 hc12)) rfl)) <| sD (by kernel_rfl))
        · rw [if_neg hc12] at hm15
          cases hm15
          exact sT rfl (dN z219 rfl (oLd (cs := [.im 0 _, .im 0 _, .im 0 _, .im 0 _]) rfl tF209 rfl rfl)) <| sS (dN z219 rfl (oCa (xs := [.v true [.im 0 _, .im 0 _, .im 0 _, .im 0 _]]) (vs := [(false, [.im 0 _])]) (v := .v false [.im 0 _]) (L_impl_ValidBond hx13) (.inl rfl) rfl kF263_209 rfl (ppC rfl pp0) rfl rfl pb0 rfl rfl rfl)) trivial (sT rfl (dN z219 rfl (oUn rfl rfl rfl)) <| sT rfl (dN z219 rfl (oMv rfl rfl)) <| sT rfl (dF rfl rfl rfl (nT (byF Iff.rfl hc12)) rfl) <| sT rfl (dF rfl rfl rfl (nT (byF Iff.rfl hc12)) rfl) <| sT rfl (dF rfl rfl rfl (nT (byF Iff.rfl hc12)) rfl) <| sT rfl (dU rfl rfl rfl rfl) <| sT rfl (dU rfl rfl rfl rfl) <| sT rfl (dU rfl rfl rfl rfl) <| sT rfl (dU rfl rfl rfl rfl) <| sT rfl (dU rfl rfl rfl rfl) <| sT rfl (dU rfl rfl rfl rfl) <| sT rfl (dU rfl rfl rfl rfl) <| sT rfl (dU rfl rfl rfl rfl) <| sT rfl (dU rfl rfl rfl rfl) <| sT rfl (dF rfl rfl rfl (nT (byF Iff.rfl hc12)) rfl) <| sT rfl (dN z219 rfl (oPkT rfl rfl (nT (byF Iff.rfl hc12)) rfl)) <| sD (by kernel_rfl))
      · refine Unw.seq ?_
        by_cases hc14 : t_29_m4 = true
        · rw [if_pos hc14] at h
          refine Go.condT rfl (Iff.rfl.2 hc14) ?_
          refine Go.seq ?_
          refine Go.r0 c219 rfl rfl (sq z219 (oAsI rfl rfl) <| nl) ?_
          refine Unw.seq ?_
          refine Go.ret (Unw.ret ?_)
          cases h
          exact ⟨rfl, (fin_of rfl rF219 rfl (by kernel_rfl))⟩
        · rw [if_neg hc14] at h
          refine Go.condF rfl (byF Iff.rfl hc14) ?_
          refine Go.skip ?_
          refine Unw.blk ?_
          refine Unw.seq ?_
          refine Go.r0 c219 rfl rfl (sq z219 (oBi rfl rfl rfl rfl) <| sq z219 (oMv rfl rfl) <| nl) ?_
          refine Unw.nil ?_
          cases h
          exact ⟨rfl, (by kernel_rfl)⟩
    · rw [if_neg hc11] at h
      refine Go.condF rfl (byF iDec hc11) ?_
      refine Go.exit ?_
      refine Unw.seqx ?_
      refine Unw.nil ?_
      cases h
      exact ⟨rfl, (by kernel_rfl)⟩
  · rintro ⟨e, st⟩ hp
    rcases o with u | r2
    · dsimp only at h
      obtain ⟨he, hst⟩ := hp
      obtain rfl : e = .exit 0 := he
      refine Unw.blkx ?_
      refine Unw.seq ?_
      refine Go.seq ?_
      refine Go.r1 c219 rfl rfl hst (sq z219 (oMv rfl rfl) <| sq z219 (oLnI rfl rfl uF81 rfl) <| sq z219 (oBi rfl rfl rfl rfl) <| sq z219 (oAsI rfl rfl) <| nl) ?_
      refine Unw.seq ?_
      refine Go.ret (Unw.ret ?_)
      cases h
      exact Fin_ret (fin_of rfl rF219 rfl (by kernel_rfl))
    · dsimp only at h
      obtain ⟨he, hfin⟩ := hp
      obtain rfl : e = .ret := he
      cases h
      exact Unw.ret (Fin_ret hfin)
theorem L_impl_pressCode {list_0 : (List S_Bond)} {presses_1 : Int} {r : Int} (h : impl_pressCode list_0 presses_1 = some r) : FL Try.prog cfg 137 [.im 2 false [.row 4 (List.map e_S_Bond list_0)], .im 2 false [.sc (.int .i64 presses_1)]] = some ([(false, [.im 0 (.sc (.int .i64 r))])], []) := by
  unfold impl_pressCode at h
  refine FL_goS (A := [(0, .v false [.im 2 (.row 4 (List.map e_S_Bond list_0))]), (1, .v false [.im 2 (.sc (.int .i64 presses_1))])]) (B := [(0, none), (1, none)]) (nt := 13) rfl rfl Try.func137 rfl rfl rfl rfl ?_
  refine Go.seq ?_
  refine Go.r0 c137 rfl rfl (sq z137 (oAsI rfl rfl) <| nl) ?_
  refine Unw.seq ?_
  refine Go.seq ?_
  refine Go.block ?_
  refine Go.seq ?_
  obtain ⟨x7, hx7, h⟩ := bs h
  refine Go.r0 c137 rfl rfl (sq z137 (oMv rfl rfl) <| sq z137 (oCa (xs := [.v false [.im 2 _]]) (vs := [(false, [.im 0 _])]) (v := .v false [.im 0 _]) (L_impl_ValidBonds hx7) (.inl rfl) rfl kF219_81 rfl (ppC rfl pp0) rfl rfl pb0 rfl rfl rfl) <| sq z137 (oUn rfl rfl rfl) <| sq z137 (oAsI rfl rfl) <| nl) ?_
  refine Unw.seq ?_
  by_cases hc1 : x7 = true
  · rw [if_pos hc1] at h
    refine Go.condF rfl (nF (Iff.rfl.2 hc1)) ?_
    refine Go.seq ?_
    obtain ⟨x11, hx11, h⟩ := bs h
    refine Go.r0 c137 rfl rfl (sq z137 (oMv rfl rfl) <| sq z137 (oCa (xs := [.v false [.im 2 _], .v false [.im 0 _], .v false [.im 0 _]]) (vs := [(false, [.im 0 _])]) (v := .v false [.im 0 _]) (L_impl_within hx11) (.inl rfl) rfl kF92_2_2_2 rfl (ppC rfl (ppC rfl (ppC rfl pp0))) rfl rfl pb0 rfl rfl rfl) <| sq z137 (oUn rfl rfl rfl) <| sq z137 (oAsI rfl rfl) <| nl) ?_
    refine Unw.seq ?_
    by_cases hc2 : x11 = true
    · rw [if_pos hc2] at h
      refine Go.condF rfl (nF (Iff.rfl.2 hc2)) ?_
      refine Go.skip ?_
      refine Unw.blk ?_
      refine Unw.seq ?_
      refine Go.seq ?_
      refine Go.r0 c137 rfl rfl (sq z137 (oAsI rfl rfl) <| nl) ?_
      refine Unw.seq ?_
      refine Go.ret (Unw.ret ?_)
      cases h
      exact Fin_ret (fin_of rfl rF137 rfl (by kernel_rfl))
    · rw [if_neg hc2] at h
      refine Go.condT rfl (nT (byF Iff.rfl hc2)) ?_
      refine Go.seq ?_
      refine Go.r0 c137 rfl rfl (sq z137 (oAsI rfl rfl) <| nl) ?_
      refine Unw.seq ?_
      refine Go.ret (Unw.ret ?_)
      cases h
      exact Fin_ret (fin_of rfl rF137 rfl (by kernel_rfl))
  · rw [if_neg hc1] at h
    refine Go.condT rfl (nT (byF Iff.rfl hc1)) ?_
    refine Go.seq ?_
    refine Go.r0 c137 rfl rfl (sq z137 (oAsI rfl rfl) <| nl) ?_
    refine Unw.seq ?_
    refine Go.ret (Unw.ret ?_)
    cases h
    exact Fin_ret (fin_of rfl rF137 rfl (by kernel_rfl))
theorem L_slices_Index_int64_int64 {s_0 : (List Int)} {v_1 : Int} {r : Int} (h : slices_Index_int64_int64 s_0 v_1 = some r) : FL Try.prog cfg 230 [.im 2 false [.row 1 (List.map eI s_0)], .im 2 false [.sc (.int .i64 v_1)]] = some ([(false, [.im 0 (.sc (.int .i64 r))])], []) := by
  unfold slices_Index_int64_int64 at h
  refine FL_goS (A := [(0, .v false [.im 2 (.row 1 (List.map eI s_0))]), (1, .v false [.im 2 (.sc (.int .i64 v_1))])]) (B := [(0, none), (1, none)]) (nt := 19) rfl rfl Try.func230 rfl rfl rfl rfl ?_
  refine Go.seq ?_
  refine Go.r0 c230 rfl rfl (sq z230 (oAsI rfl rfl) <| nl) ?_
  refine Unw.seq ?_
  refine Go.seq ?_
  refine Go.seq ?_
  refine Go.r0 c230 rfl rfl (sq z230 (oMv rfl rfl) <| sq z230 (oLnI rfl rfl uF27 rfl) <| sq z230 (oMv rfl rfl) <| nl) ?_
  refine Unw.seq ?_
  refine Go.block ?_
  obtain ⟨o, hl, h⟩ := bs h
  refine Go.lp c230 rfl _ (fun (t_8_l2 : Int) => mk [(0, .v false [.im 2 (.row 1 (List.map eI s_0))]), (1, iv v_1), (7, iv (s_0.length : Int)), (8, iv t_8_l2)] []) (fun (o : (Unit ⊕ Int)) (p : Ex × St) => match o with | (.inl _) => p.1 = .exit 0 ∧ p.2.norm ([], []) = mk [] [] | (.inr r2) => p.1 = .ret ∧ fin Try.prog cfg 230 Try.f230 [.im 2 false [.row 1 (List.map eI s_0)], .im 2 false [.sc (.int .i64 v_1)]] p.2 = some ([(false, [.im 0 (.sc (.int .i64 r2))])], [])) hl (by kernel_rfl) ?_ ?_ ?_
  · intro o p hp e
    rcases o with u | r2 <;> exact nomatch (hp.1.symm.trans e)
  · rintro t_8_l2 o h
    unfold slices_Index_int64_int64_l2 at h
    refine Go.seq ?_
    refine Go.r0 c230 rfl rfl (sq z230 (oBi rfl rfl rfl rfl) <| nl) ?_
    refine Unw.seq ?_
    refine Go.seq ?_
    by_cases hc5 : t_8_l2 < (s_0.length : Int)
    · rw [if_pos hc5] at h
      refine Go.condT rfl (iDec.2 hc5) ?_
      refine Go.skip ?_
      refine Unw.seq ?_
      refine Go.seq ?_
      refine Go.block ?_
      refine Go.seq ?_
      refine Go.r0 c230 rfl rfl (sq z230 (oMv rfl rfl) <| sq z230 (oAsI rfl rfl) <| nl) ?_
      refine Unw.seq ?_
      refine Go.seq ?_
      obtain ⟨x14, hx14, h⟩ := bs h
      refine Go.r0 c230 rfl rfl (sq z230 (oMv rfl rfl) <| sq z230 (oMv rfl rfl) <| sq z230 (oMv rfl rfl) <| sq z230 (oIAI rfl hx14 sF27 rfl rfl) <| sq z230 (oLd (cs := [.im 2 _]) rfl tF2 rfl rfl) <| sq z230 (oBi rfl rfl rfl rfl) <| nl) ?_
      refine Unw.seq ?_
      by_cases hc6 : v_1 = x14
      · rw [if_pos hc6] at h
        refine Go.condT rfl (iEq.2 hc6) ?_
        refine Go.seq ?_
        refine Go.r0 c230 rfl rfl (sq z230 (oMv rfl rfl) <| sq z230 (oAsI rfl rfl) <| nl) ?_
        refine Unw.seq ?_
        refine Go.ret (Unw.ret ?_)
        cases h
        exact ⟨rfl, (fin_of rfl rF230 rfl (by kernel_rfl))⟩
      · rw [if_neg hc6] at h
        refine Go.condF rfl (byF iEq hc6) ?_
        refine Go.skip ?_
        refine Unw.blk ?_
        refine Unw.seq ?_
        refine Go.r0 c230 rfl rfl (sq z230 (oBi rfl rfl rfl rfl) <| sq z230 (oMv rfl rfl) <| nl) ?_
        refine Unw.nil ?_
        cases h
        exact ⟨rfl, (by kernel_rfl)⟩
    · rw [if_neg hc5] at h
      refine Go.condF rfl (byF iDec hc5) ?_
      refine Go.exit ?_
      refine Unw.seqx ?_
      refine Unw.nil ?_
      cases h
      exact ⟨rfl, (by kernel_rfl)⟩
  · rintro ⟨e, st⟩ hp
    rcases o with u | r2
    · dsimp only at h
      obtain ⟨he, hst⟩ := hp
      obtain rfl : e = .exit 0 := he
      refine Unw.blkx ?_
      refine Unw.seq ?_
      refine Go.seq ?_
      refine Go.r1 c230 rfl rfl hst (sq z230 (oAsI rfl rfl) <| nl) ?_
      refine Unw.seq ?_
      refine Go.ret (Unw.ret ?_)
      cases h
      exact Fin_ret (fin_of rfl rF230 rfl (by kernel_rfl))
    · dsimp only at h
      obtain ⟨he, hfin⟩ := hp
      obtain rfl : e = .ret := he
      cases h
      exact Unw.ret (Fin_ret hfin)
theorem L_slices_Contains_int64_int64 {s_0 : (List Int)} {v_1 : Int} {r : Bool} (h : slices_Contains_int64_int64 s_0 v_1 = some r) : FL Try.prog cfg 152 [.im 2 false [.row 1 (List.map eI s_0)], .im 2 false [.sc (.int .i64 v_1)]] = some ([(false, [.im 0 (.sc (.bool r))])], []) := by
  unfold slices_Contains_int64_int64 at h
  refine FL_goS (A := [(0, .v false [.im 2 (.row 1 (List.map eI s_0))]), (1, .v false [.im 2 (.sc (.int .i64 v_1))])]) (B := [(0, none), (1, none)]) (nt := 9) rfl rfl Try.func152 rfl rfl rfl rfl ?_
  refine Go.seq ?_
  refine Go.r0 c152 rfl rfl (sq z152 (oAsI rfl rfl) <| nl) ?_
  refine Unw.seq ?_
  refine Go.seq ?_
  obtain ⟨x7, hx7, h⟩ := bs h
  refine Go.r0 c152 rfl rfl (sq z152 (oMv rfl rfl) <| sq z152 (oMv rfl rfl) <| sq z152 (oCa (xs := [.v false [.im 2 _], .v false [.im 2 _]]) (vs := [(false, [.im 0 _])]) (v := .v false [.im 0 _]) (L_slices_Index_int64_int64 hx7) (.inl rfl) rfl kF230_27_2 rfl (ppC rfl (ppC rfl pp0)) rfl rfl pb0 rfl rfl rfl) <| sq z152 (oBi rfl rfl rfl rfl) <| sq z152 (oAsI rfl rfl) <| nl) ?_
  refine Unw.seq ?_
  refine Go.ret (Unw.ret ?_)
  cases h
  exact Fin_ret (fin_of rfl rF152 rfl (by kernel_rfl))
theorem L_impl_gluing_add {g_0 : S_gluing} {b_1 : S_Bond} {presses_2 : Int} {r : (S_glued × S_gluing)} (h : impl_gluing_add g_0 b_1 presses_2 = some r) : FL Try.prog cfg 220 [.ptr true [(.imm, .sc (.int .i64 g_0.ready)), (.imm, .sc (.int .i64 g_0.free.e0)), (.imm, .sc (.int .i64 g_0.free.e1)), (.imm, .sc (.int .i64 g_0.free.e2)), (.imm, .sc (.int .i64 g_0.free.e3)), (.imm, .sc (.int .i64 g_0.end_))], .im 2 true [.sc (.string b_1.Name), .sc (.int .i64 b_1.Spread), .sc (.int .i64 b_1.Open), .sc (.int .i64 b_1.Press)], .im 2 false [.sc (.int .i64 presses_2)]] = some ([(true, [.im 0 (.sc (.int .i64 r.1.start)), .im 0 (.sc (.int .i64 r.1.press)), .im 0 (.sc (.int .i64 r.1.begin)), .im 0 (.sc (.int .i64 r.1.end_))])], [.ptr true [(.imm, .sc (.int .i64 r.2.ready)), (.imm, .sc (.int .i64 r.2.free.e0)), (.imm, .sc (.int .i64 r.2.free.e1)), (.imm, .sc (.int .i64 r.2.free.e2)), (.imm, .sc (.int .i64 r.2.free.e3)), (.imm, .sc (.int .i64 r.2.end_))]]) := by
  unfold impl_gluing_add at h
  refine FL_goS (A := [(0, .v false [.mp 0 0 0]), (1, .v true [.im 2 (.sc (.string b_1.Name)), .im 2 (.sc (.int .i64 b_1.Spread)), .im 2 (.sc (.int .i64 b_1.Open)), .im 2 (.sc (.int .i64 b_1.Press))]), (2, .v false [.im 2 (.sc (.int .i64 presses_2))])]) (B := [(0, some ⟨0, 0, true, true, false, true, [⟨.imm, 0, 0, .sc (.int .i64 g_0.ready)⟩, ⟨.imm, 0, 0, .sc (.int .i64 g_0.free.e0)⟩, ⟨.imm, 0, 0, .sc (.int .i64 g_0.free.e1)⟩, ⟨.imm, 0, 0, .sc (.int .i64 g_0.free.e2)⟩, ⟨.imm, 0, 0, .sc (.int .i64 g_0.free.e3)⟩, ⟨.imm, 0, 0, .sc (.int .i64 g_0.end_)⟩]⟩), (1, none), (2, none)]) (nt := 87) rfl rfl Try.func220 rfl rfl rfl rfl ?_
  refine Go.seq ?_
  refine Go.r0 c220 rfl rfl (sq z220 (oBx rfl tF209 rfl (tkI (tkI (tkI (tkI tk0))))) <| sq z220 (oAl rfl tF279 (tkI (tkI (tkI (tkI tk0))))) <| nl) ?_
  refine Unw.seq ?_
  refine Go.seq ?_
  refine Go.r0 c220 rfl rfl (sq z220 (oAsI rfl rfl) <| nl) ?_
  refine Unw.seq ?_
  refine Go.seq ?_
  refine Go.seq ?_
  refine Go.r0 c220 rfl rfl (sq z220 (oMv rfl rfl) <| sq z220 (oMv rfl rfl) <| nl) ?_
  refine Unw.seq ?_
  refine Go.block ?_
  obtain ⟨o, hl, h⟩ := bs h
  refine Go.lp c220 rfl _ (fun (s : (Int × Int)) => match s with | (press_7_l3, t_12_l3) => mk [(0, .v false [.mp 0 0 0]), (4, .v false [.mp 4 0 0]), (6, .v false [.mp 6 0 0]), (7, iv press_7_l3), (11, iv presses_2), (12, iv t_12_l3)] [(0, some ⟨0, 0, true, true, false, true, [⟨.imm, 0, 0, .sc (.int .i64 g_0.ready)⟩, ⟨.imm, 0, 0, .sc (.int .i64 g_0.free.e0)⟩, ⟨.imm, 0, 0, .sc (.int .i64 g_0.free.e1)⟩, ⟨.imm, 0, 0, .sc (.int .i64 g_0.free.e2)⟩, ⟨.imm, 0, 0, .sc (.int .i64 g_0.free.e3)⟩, ⟨.imm, 0, 0, .sc (.int .i64 g_0.end_)⟩]⟩), (4, some ⟨0, 0, false, true, false, true, [⟨.imm, 0, 0, .sc (.string b_1.Name)⟩, ⟨.imm, 0, 0, .sc (.int .i64 b_1.Spread)⟩, ⟨.imm, 0, 0, .sc (.int .i64 b_1.Open)⟩, ⟨.imm, 0, 0, .sc (.int .i64 b_1.Press)⟩]⟩), (6, some ⟨0, 0, false, true, false, true, [⟨.imm, 0, 0, .sc (.int .i64 0)⟩, ⟨.imm, 0, 0, .sc (.int .i64 0)⟩, ⟨.imm, 0, 0, .sc (.int .i64 0)⟩, ⟨.imm, 0, 0, .sc (.int .i64 0)⟩]⟩)]) (fun (press_7_e0_3 : Int) (p : Ex × St) => p.1 = .exit 0 ∧ p.2.norm ([0, 4, 6, 7], [0, 4, 6]) = mk [(0, .v false [.mp 0 0 0]), (4, .v false [.mp 4 0 0]), (6, .v false [.mp 6 0 0]), (7, iv press_7_e0_3)] [(0, some ⟨0, 0, true, true, false, true, [⟨.imm, 0, 0, .sc (.int .i64 g_0.ready)⟩, ⟨.imm, 0, 0, .sc (.int .i64 g_0.free.e0)⟩, ⟨.imm, 0, 0, .sc (.int .i64 g_0.free.e1)⟩, ⟨.imm, 0, 0, .sc (.int .i64 g_0.free.e2)⟩, ⟨.imm, 0, 0, .sc (.int .i64 g_0.free.e3)⟩, ⟨.imm, 0, 0, .sc (.int .i64 g_0.end_)⟩]⟩), (4, some ⟨0, 0, false, true, false, true, [⟨.imm, 0, 0, .sc (.string b_1.Name)⟩, ⟨.imm, 0, 0, .sc (.int .i64 b_1.Spread)⟩, ⟨.imm, 0, 0, .sc (.int .i64 b_1.Open)⟩, ⟨.imm, 0, 0, .sc (.int .i64 b_1.Press)⟩]⟩), (6, some ⟨0, 0, false, true, false, true, [⟨.imm, 0, 0, .sc (.int .i64 0)⟩, ⟨.imm, 0, 0, .sc (.int .i64 0)⟩, ⟨.imm, 0, 0, .sc (.int .i64 0)⟩, ⟨.imm, 0, 0, .sc (.int .i64 0)⟩]⟩)]) hl (by kernel_rfl) ?_ ?_ ?_
  · intro o p hp e
    exact nomatch (hp.1.symm.trans e)
  · rintro ⟨press_7_l3, t_12_l3⟩ o h
    unfold impl_gluing_add_l3 at h
    dsimp only at h
    refine Go.seq ?_
    refine Go.r0 c220 rfl rfl (sq z220 (oBi rfl rfl rfl rfl) <| nl) ?_
    refine Unw.seq ?_
    refine Go.seq ?_
    by_cases hc11 : t_12_l3 < presses_2
    · rw [if_pos hc11] at h
      refine Go.condT rfl (iDec.2 hc11) ?_
      refine Go.skip ?_
      refine Unw.seq ?_
      refine Go.seq ?_
      refine Go.join (fun st => ∃ press_7_r7, impl_gluing_add_k7 t_12_l3 press_7_r7 = some o ∧ st.norm ([0, 4, 6, 7, 11, 12], [0, 4, 6]) = mk [(0, .v false [.mp 0 0 0]), (4, .v false [.mp 4 0 0]), (6, .v false [.mp 6 0 0]), (7, iv press_7_r7), (11, iv presses_2), (12, iv t_12_l3)] [(0, some ⟨0, 0, true, true, false, true, [⟨.imm, 0, 0, .sc (.int .i64 g_0.ready)⟩, ⟨.imm, 0, 0, .sc (.int .i64 g_0.free.e0)⟩, ⟨.imm, 0, 0, .sc (.int .i64 g_0.free.e1)⟩, ⟨.imm, 0, 0, .sc (.int .i64 g_0.free.e2)⟩, ⟨.imm, 0, 0, .sc (.int .i64 g_0.free.e3)⟩, ⟨.imm, 0, 0, .sc (.int .i64 g_0.end_)⟩]⟩), (4, some ⟨0, 0, false, true, false, true, [⟨.imm, 0, 0, .sc (.string b_1.Name)⟩, ⟨.imm, 0, 0, .sc (.int .i64 b_1.Spread)⟩, ⟨.imm, 0, 0, .sc (.int .i64 b_1.Open)⟩, ⟨.imm, 0, 0, .sc (.int .i64 b_1.Press)⟩]⟩), (6, some ⟨0, 0, false, true, false, true, [⟨.imm, 0, 0, .sc (.int .i64 0)⟩, ⟨.imm, 0, 0, .sc (.int .i64 0)⟩, ⟨.imm, 0, 0, .sc (.int .i64 0)⟩, ⟨.imm, 0, 0, .sc (.int .i64 0)⟩]⟩)]) ?_ ?_
      · rintro st ⟨press_7_r7, h, hst⟩
        unfold impl_gluing_add_k7 at h
        refine Unw.seq ?_
        refine Go.r1 c220 rfl rfl hst (sq z220 (oBi rfl rfl rfl rfl) <| sq z220 (oMv rfl rfl) <| nl) ?_
        refine Unw.nil ?_
        cases h
        exact ⟨rfl, (by kernel_rfl)⟩
      · intro K13
        refine Go.block ?_
        refine Go.seq ?_
        refine Go.r0 c220 rfl rfl (sq z220 (oMv rfl rfl) <| sq z220 (oAsI rfl rfl) <| nl) ?_
        refine Unw.seq ?_
        refine Go.seq ?_
        obtain ⟨x19, hx19, h⟩ := bs h
        obtain ⟨x20, hx20, h⟩ := bs h
        obtain ⟨x25, hx25, h⟩ := bs h
        obtain ⟨x26, hx26, h⟩ := bs h
        refine Go.dr c220 rfl rfl rfl rfl (mk [(0, .v false [.mp 0 0 0]), (4, .v false [.mp 4 0 0]), (6, .v false [.mp 6 0 0]), (7, iv press_7_l3), (8, iv t_12_l3), (11, iv presses_2), (12, iv t_12_l3), (27, bv (decide (x20 < x26)))] [(0, some ⟨0, 0, true, true, false, true, [⟨.imm, 0, 0, .sc (.int .i64 g_0.ready)⟩, ⟨.imm, 0, 0, .sc (.int .i64 g_0.free.e0)⟩, ⟨.imm, 0, 0, .sc (.int .i64 g_0.free.e1)⟩, ⟨.imm, 0, 0, .sc (.int .i64 g_0.free.e2)⟩, ⟨.imm, 0, 0, .sc (.int .i64 g_0.free.e3)⟩, ⟨.imm, 0, 0, .sc (.int .i64 g_0.end_)⟩]⟩), (4, some ⟨0, 0, false, true, false, true, [⟨.imm, 0, 0, .sc (.string b_1.Name)⟩, ⟨.imm, 0, 0, .sc (.int .i64 b_1.Spread)⟩, ⟨.imm, 0, 0, .sc (.int .i64 b_1.Open)⟩, ⟨.imm, 0, 0, .sc (.int .i64 b_1.Press)⟩]⟩), (6, some ⟨0, 0, false, true, false, true, [⟨.imm, 0, 0, .sc (.int .i64 0)⟩, ⟨.imm, 0, 0, .sc (.int .i64 0)⟩, ⟨.imm, 0, 0, .sc (.int .i64 0)⟩, ⟨.imm, 0, 0, .sc (.int .i64 0)⟩]⟩)]) (sT rfl (dN z220 rfl (oMv rfl rfl)) <| sT rfl (dN z220 rfl (oMv rfl rfl)) <| sT rfl (dN z220 rfl (oNl rfl rfl rfl)) <| sT rfl (dN z220 rfl (oFA (r' := .mp 0 0 1) rfl fF218_1 rfl rfl)) <| sT rfl (dN z220 rfl (oIAA (r' := .mp 0 0 (1 + (t_12_l3).toNat * 1)) rfl uF216 zF2 rfl (ix0 hx19) (ixB hx19) rfl rfl)) <| sT rfl (dN z220 rfl (oLd (cs := [.im 0 _]) rfl tF2 rfl (ldA (L := ([g_0.free.e0, g_0.free.e1, g_0.free.e2, g_0.free.e3] : List Int)) hx20 rfl rfl rfl rfl))) <| sT rfl (dN z220 rfl (oMv rfl rfl)) <| sT rfl (dN z220 rfl (oMv rfl rfl)) <| sT rfl (dN z220 rfl (oNl rfl rfl rfl)) <| sT rfl (dN z220 rfl (oFA (r' := .mp 0 0 1) rfl fF218_1 rfl rfl)) <| sT rfl (dN z220 rfl (oIAA (r' := .mp 0 0 (1 + (press_7_l3).toNat * 1)) rfl uF216 zF2 rfl (ix0 hx25) (ixB hx25) rfl rfl)) <| sT rfl (dN z220 rfl (oLd (cs := [.im 0 _]) rfl tF2 rfl (ldA (L := ([g_0.free.e0, g_0.free.e1, g_0.free.e2, g_0.free.e3] : List Int)) hx26 rfl rfl rfl rfl))) <| sT rfl (dN z220 rfl (oBi rfl rfl rfl rfl)) <| sD (by kernel_rfl)) ?_
        refine Unw.seq ?_
        by_cases hc14 : x20 < x26
        · rw [if_pos hc14] at h
          refine Go.condT rfl (iDec.2 hc14) ?_
          refine Go.r0 c220 rfl rfl (sq z220 (oMv rfl rfl) <| sq z220 (oAsI rfl rfl) <| nl) ?_
          refine Unw.blk ?_
          exact K13 _ ⟨t_12_l3, h, (by kernel_rfl)⟩
        · rw [if_neg hc14] at h
          refine Go.condF rfl (byF iDec hc14) ?_
          refine Go.skip ?_
          refine Unw.blk ?_
          exact K13 _ ⟨press_7_l3, h, (by kernel_rfl)⟩
    · rw [if_neg hc11] at h
      refine Go.condF rfl (byF iDec hc11) ?_
      refine Go.exit ?_
      refine Unw.seqx ?_
      refine Unw.nil ?_
      cases h
      exact ⟨rfl, (by kernel_rfl)⟩
  · rintro ⟨e, st⟩ hp
    obtain ⟨press_7_e0_3, rfl⟩ : ∃ y, y = o := ⟨o, rfl⟩
    obtain ⟨he, hst⟩ := hp
    obtain rfl : e = .exit 0 := he
    refine Unw.blkx ?_
    refine Unw.seq ?_
    refine Go.seq ?_
    obtain ⟨x34, hx34, h⟩ := bs h
    obtain ⟨x35, hx35, h⟩ := bs h
    refine Go.r1 c220 rfl rfl hst (sq z220 (oMv rfl rfl) <| sq z220 (oMv rfl rfl) <| sq z220 (oNl rfl rfl rfl) <| sq z220 (oFA (r' := .mp 0 0 1) rfl fF218_1 rfl rfl) <| sq z220 (oIAA (r' := .mp 0 0 (1 + (press_7_e0_3).toNat * 1)) rfl uF216 zF2 rfl (ix0 hx34) (ixB hx34) rfl rfl) <| sq z220 (oLd (cs := [.im 0 _]) rfl tF2 rfl (ldA (L := ([g_0.free.e0, g_0.free.e1, g_0.free.e2, g_0.free.e3] : List Int)) hx35 rfl rfl rfl rfl)) <| sq z220 (oAsI rfl rfl) <| nl) ?_
    refine Unw.seq ?_
    refine Go.seq ?_
    refine Go.dr c220 rfl rfl rfl rfl (mk [(0, .v false [.mp 0 0 0]), (4, .v false [.mp 4 0 0]), (6, .v false [.mp 6 0 0]), (7, iv press_7_e0_3), (9, iv x35), (10, .v false [.mp 10 0 0])] [(0, some ⟨0, 0, true, true, false, true, [⟨.imm, 0, 0, .sc (.int .i64 g_0.ready)⟩, ⟨.imm, 0, 0, .sc (.int .i64 g_0.free.e0)⟩, ⟨.imm, 0, 0, .sc (.int .i64 g_0.free.e1)⟩, ⟨.imm, 0, 0, .sc (.int .i64 g_0.free.e2)⟩, ⟨.imm, 0, 0, .sc (.int .i64 g_0.free.e3)⟩, ⟨.imm, 0, 0, .sc (.int .i64 g_0.end_)⟩]⟩), (4, some ⟨0, 0, false, true, false, true, [⟨.imm, 0, 0, .sc (.string b_1.Name)⟩, ⟨.imm, 0, 0, .sc (.int .i64 b_1.Spread)⟩, ⟨.imm, 0, 0, .sc (.int .i64 b_1.Open)⟩, ⟨.imm, 0, 0, .sc (.int .i64 b_1.Press)⟩]⟩), (6, some ⟨0, 0, false, true, false, true, [⟨.imm, 0, 0, .sc (.int .i64 0)⟩, ⟨.imm, 0, 0, .sc (.int .i64 0)⟩, ⟨.imm, 0, 0, .sc (.int .i64 0)⟩, ⟨.imm, 0, 0, .sc (.int .i64 0)⟩]⟩), (10, some ⟨0, 0, false, true, false, true, [⟨.imm, 0, 0, .sc (.int .i64 (max2 g_0.ready (w64 (x35 - b_1.Open))))⟩, ⟨.imm, 0, 0, .sc (.int .i64 press_7_e0_3)⟩, ⟨.imm, 0, 0, .sc (.int .i64 0)⟩, ⟨.imm, 0, 0, .sc (.int .i64 0)⟩]⟩)]) (sT rfl (dN z220 rfl (oMv rfl rfl)) <| sT rfl (dN z220 rfl (oNl rfl rfl rfl)) <| sT rfl (dN z220 rfl (oFA (r' := .mp 0 0 0) rfl fF218_0 rfl rfl)) <| sT rfl (dN z220 rfl (oLd (cs := [.im 0 _]) rfl tF2 rfl rfl)) <| sT rfl (dN z220 rfl (oMv rfl rfl)) <| sT rfl (dN z220 rfl (oFA (r' := .mp 4 0 2) rfl fF209_2 rfl rfl)) <| sT rfl (dN z220 rfl (oLd (cs := [.im 0 _]) rfl tF2 rfl rfl)) <| sT rfl (dN z220 rfl (oBi rfl rfl rfl rfl)) <| sT rfl (dN z220 rfl (oMv rfl rfl)) <| sF (dN z220 rfl (oMax rfl rfl)) trivial (sF (dN z220 rfl (oBu (cs := [.im 0 _, .im 0 _, .im 0 _, .im 0 _]) rfl bF279 rfl)) trivial (sS (dN z220 rfl (oAl rfl tF279 (tkI (tkI (tkI (tkI tk0)))))) trivial (sS (dN z220 rfl (oSt tF279 rfl rfl rfl (tkI (tkI (tkI (tkI tk0)))) rfl rfl rfl)) trivial (sD (by kernel_rfl)))) (sS (dN z220 rfl (oAl rfl tF279 (tkI (tkI (tkI (tkI tk0)))))) trivial (sS (dN z220 rfl (oBu (cs := [.im 0 _, .im 0 _, .im 0 _, .im 0 _]) rfl bF279 rfl)) trivial (sS (dN z220 rfl (oSt tF279 rfl rfl rfl (tkI (tkI (tkI (tkI tk0)))) rfl rfl rfl)) trivial (sD (by kernel_rfl)))))) (sS (dN z220 rfl (oAl rfl tF279 (tkI (tkI (tkI (tkI tk0)))))) trivial (sS (dN z220 rfl (oMax rfl rfl)) trivial (sS (dN z220 rfl (oBu (cs := [.im 0 _, .im 0 _, .im 0 _, .im 0 _]) rfl bF279 rfl)) trivial (sS (dN z220 rfl (oSt tF279 rfl rfl rfl (tkI (tkI (tkI (tkI tk0)))) rfl rfl rfl)) trivial (sD (by kernel_rfl))))))) ?_
    refine Unw.seq ?_
    refine Go.seq ?_
    refine Go.r0 c220 rfl rfl (sq z220 (oFA (r' := .mp 10 0 0) rfl fF279_0 rfl rfl) <| sq z220 (oLd (cs := [.im 0 _]) rfl tF2 rfl rfl) <| sq z220 (oFA (r' := .mp 4 0 1) rfl fF209_1 rfl rfl) <| sq z220 (oLd (cs := [.im 0 _]) rfl tF2 rfl rfl) <| sq z220 (oBi rfl rfl rfl rfl) <| sq z220 (oMv rfl rfl) <| sq z220 (oMax rfl rfl) <| sq z220 (oFA (r' := .mp 10 0 2) rfl fF279_2 rfl rfl) <| sq z220 (oSt tF2 rfl rfl rfl (tkI tk0) rfl rfl rfl) <| nl) ?_
    refine Unw.seq ?_
    refine Go.seq ?_
    refine Go.r1 c220 rfl rfl (st1 := mk [(0, .v false [.mp 0 0 0]), (4, .v false [.mp 4 0 0]), (6, .v false [.mp 6 0 0]), (7, iv press_7_e0_3), (10, .v false [.mp 10 0 0])] [(0, some ⟨0, 0, true, true, false, true, [⟨.imm, 0, 0, .sc (.int .i64 g_0.ready)⟩, ⟨.imm, 0, 0, .sc (.int .i64 g_0.free.e0)⟩, ⟨.imm, 0, 0, .sc (.int .i64 g_0.free.e1)⟩, ⟨.imm, 0, 0, .sc (.int .i64 g_0.free.e2)⟩, ⟨.imm, 0, 0, .sc (.int .i64 g_0.free.e3)⟩, ⟨.imm, 0, 0, .sc (.int .i64 g_0.end_)⟩]⟩), (4, some ⟨0, 0, false, true, false, true, [⟨.imm, 0, 0, .sc (.string b_1.Name)⟩, ⟨.imm, 0, 0, .sc (.int .i64 b_1.Spread)⟩, ⟨.imm, 0, 0, .sc (.int .i64 b_1.Open)⟩, ⟨.imm, 0, 0, .sc (.int .i64 b_1.Press)⟩]⟩), (6, some ⟨0, 0, false, true, false, true, [⟨.imm, 0, 0, .sc (.int .i64 0)⟩, ⟨.imm, 0, 0, .sc (.int .i64 0)⟩, ⟨.imm, 0, 0, .sc (.int .i64 0)⟩, ⟨.imm, 0, 0, .sc (.int .i64 0)⟩]⟩), (10, some ⟨0, 0, false, true, false, true, [⟨.imm, 0, 0, .sc (.int .i64 (max2 g_0.ready (w64 (x35 - b_1.Open))))⟩, ⟨.imm, 0, 0, .sc (.int .i64 press_7_e0_3)⟩, ⟨.imm, 0, 0, .sc (.int .i64 (max2 (w64 ((max2 g_0.ready (w64 (x35 - b_1.Open))) + b_1.Spread)) x35))⟩, ⟨.imm, 0, 0, .sc (.int .i64 0)⟩]⟩)]) (by kernel_rfl) (sq z220 (oFA (r' := .mp 10 0 2) rfl fF279_2 rfl rfl) <| sq z220 (oLd (cs := [.im 0 _]) rfl tF2 rfl rfl) <| sq z220 (oFA (r' := .mp 4 0 3) rfl fF209_3 rfl rfl) <| sq z220 (oLd (cs := [.im 0 _]) rfl tF2 rfl rfl) <| sq z220 (oBi rfl rfl rfl rfl) <| sq z220 (oFA (r' := .mp 10 0 3) rfl fF279_3 rfl rfl) <| sq z220 (oSt tF2 rfl rfl rfl (tkI tk0) rfl rfl rfl) <| nl) ?_
    refine Unw.seq ?_
    refine Go.seq ?_
    refine Go.r1 c220 rfl rfl (st1 := mk [(0, .v false [.mp 0 0 0]), (4, .v false [.mp 4 0 0]), (6, .v false [.mp 6 0 0]), (7, iv press_7_e0_3), (10, .v false [.mp 10 0 0])] [(0, some ⟨0, 0, true, true, false, true, [⟨.imm, 0, 0, .sc (.int .i64 g_0.ready)⟩, ⟨.imm, 0, 0, .sc (.int .i64 g_0.free.e0)⟩, ⟨.imm, 0, 0, .sc (.int .i64 g_0.free.e1)⟩, ⟨.imm, 0, 0, .sc (.int .i64 g_0.free.e2)⟩, ⟨.imm, 0, 0, .sc (.int .i64 g_0.free.e3)⟩, ⟨.imm, 0, 0, .sc (.int .i64 g_0.end_)⟩]⟩), (4, some ⟨0, 0, false, true, false, true, [⟨.imm, 0, 0, .sc (.string b_1.Name)⟩, ⟨.imm, 0, 0, .sc (.int .i64 b_1.Spread)⟩, ⟨.imm, 0, 0, .sc (.int .i64 b_1.Open)⟩, ⟨.imm, 0, 0, .sc (.int .i64 b_1.Press)⟩]⟩), (6, some ⟨0, 0, false, true, false, true, [⟨.imm, 0, 0, .sc (.int .i64 0)⟩, ⟨.imm, 0, 0, .sc (.int .i64 0)⟩, ⟨.imm, 0, 0, .sc (.int .i64 0)⟩, ⟨.imm, 0, 0, .sc (.int .i64 0)⟩]⟩), (10, some ⟨0, 0, false, true, false, true, [⟨.imm, 0, 0, .sc (.int .i64 (max2 g_0.ready (w64 (x35 - b_1.Open))))⟩, ⟨.imm, 0, 0, .sc (.int .i64 press_7_e0_3)⟩, ⟨.imm, 0, 0, .sc (.int .i64 (max2 (w64 ((max2 g_0.ready (w64 (x35 - b_1.Open))) + b_1.Spread)) x35))⟩, ⟨.imm, 0, 0, .sc (.int .i64 (w64 ((max2 (w64 ((max2 g_0.ready (w64 (x35 - b_1.Open))) + b_1.Spread)) x35) + b_1.Press)))⟩]⟩)]) (by kernel_rfl) (sq z220 (oMv rfl rfl) <| sq z220 (oFA (r' := .mp 10 0 0) rfl fF279_0 rfl rfl) <| sq z220 (oLd (cs := [.im 0 _]) rfl tF2 rfl rfl) <| sq z220 (oFA (r' := .mp 4 0 1) rfl fF209_1 rfl rfl) <| sq z220 (oLd (cs := [.im 0 _]) rfl tF2 rfl rfl) <| sq z220 (oBi rfl rfl rfl rfl) <| sq z220 (oNl rfl rfl rfl) <| sq z220 (oFA (r' := .mp 0 0 0) rfl fF218_0 rfl rfl) <| sq z220 (oSt tF2 rfl rfl rfl (tkI tk0) rfl rfl rfl) <| nl) ?_
    refine Unw.seq ?_
    refine Go.seq ?_
    obtain ⟨x75, hx75, h⟩ := bs h
    obtain ⟨⟨g_o0_1_m13, g_o0_2_m13, g_o0_3_m13, g_o0_4_m13⟩, hm10, h⟩ := bs h
    dsimp only at h
    refine Go.dr c220 rfl rfl rfl (st1 := mk [(0, .v false [.mp 0 0 0]), (6, .v false [.mp 6 0 0]), (7, iv press_7_e0_3), (10, .v false [.mp 10 0 0])] [(0, some ⟨0, 0, true, true, false, true, [⟨.imm, 0, 0, .sc (.int .i64 (w64 ((max2 g_0.ready (w64 (x35 - b_1.Open))) + b_1.Spread)))⟩, ⟨.imm, 0, 0, .sc (.int .i64 g_0.free.e0)⟩, ⟨.imm, 0, 0, .sc (.int .i64 g_0.free.e1)⟩, ⟨.imm, 0, 0, .sc (.int .i64 g_0.free.e2)⟩, ⟨.imm, 0, 0, .sc (.int .i64 g_0.free.e3)⟩, ⟨.imm, 0, 0, .sc (.int .i64 g_0.end_)⟩]⟩), (6, some ⟨0, 0, false, true, false, true, [⟨.imm, 0, 0, .sc (.int .i64 0)⟩, ⟨.imm, 0, 0, .sc (.int .i64 0)⟩, ⟨.imm, 0, 0, .sc (.int .i64 0)⟩, ⟨.imm, 0, 0, .sc (.int .i64 0)⟩]⟩), (10, some ⟨0, 0, false, true, false, true, [⟨.imm, 0, 0, .sc (.int .i64 (max2 g_0.ready (w64 (x35 - b_1.Open))))⟩, ⟨.imm, 0, 0, .sc (.int .i64 press_7_e0_3)⟩, ⟨.imm, 0, 0, .sc (.int .i64 (max2 (w64 ((max2 g_0.ready (w64 (x35 - b_1.Open))) + b_1.Spread)) x35))⟩, ⟨.imm, 0, 0, .sc (.int .i64 (w64 ((max2 (w64 ((max2 g_0.ready (w64 (x35 - b_1.Open))) + b_1.Spread)) x35) + b_1.Press)))⟩]⟩)]) (by kernel_rfl) (mk [(0, .v false [.mp 0 0 0]), (6, .v false [.mp 6 0 0]), (10, .v false [.mp 10 0 0])] [(0, some ⟨0, 0, true, true, false, true, [⟨.imm, 0, 0, .sc (.int .i64 (w64 ((max2 g_0.ready (w64 (x35 - b_1.Open))) + b_1.Spread)))⟩, ⟨.imm, 0, 0, .sc (.int .i64 g_o0_1_m13)⟩, ⟨.imm, 0, 0, .sc (.int .i64 g_o0_2_m13)⟩, ⟨.imm, 0, 0, .sc (.int .i64 g_o0_3_m13)⟩, ⟨.imm, 0, 0, .sc (.int .i64 g_o0_4_m13)⟩, ⟨.imm, 0, 0, .sc (.int .i64 g_0.end_)⟩]⟩), (6, some ⟨0, 0, false, true, false, true, [⟨.imm, 0, 0, .sc (.int .i64 0)⟩, ⟨.imm, 0, 0, .sc (.int .i64 0)⟩, ⟨.imm, 0, 0, .sc (.int .i64 0)⟩, ⟨.imm, 0, 0, .sc (.int .i64 0)⟩]⟩), (10, some ⟨0, 0, false, true, false, true, [⟨.imm, 0, 0, .sc (.int .i64 (max2 g_0.ready (w64 (x35 - b_1.Open))))⟩, ⟨.imm, 0, 0, .sc (.int .i64 press_7_e0_3)⟩, ⟨.imm, 0, 0, .sc (.int .i64 (max2 (w64 ((max2 g_0.ready (w64 (x35 - b_1.Open))) + b_1.Spread)) x35))⟩, ⟨.imm, 0, 0, .sc (.int .i64 (w64 ((max2 (w64 ((max2 g_0.ready (w64 (x35 - b_1.Open))) + b_1.Spread)) x35) + b_1.Press)))⟩]⟩)]) ?_ ?_
    · by_cases hc7 : press_7_e0_3 = 0
      · rw [if_pos hc7] at hm10
        cases hm10
        exact sT rfl (dN z220 rfl (oMv rfl rfl)) <| sT rfl (dN z220 rfl (oMv rfl rfl)) <| sT rfl (dN z220 rfl (oFA (r' := .mp 10 0 3) rfl fF279_3 rfl rfl)) <| sT rfl (dN z220 rfl (oLd (cs := [.im 0 _]) rfl tF2 rfl rfl)) <| sT rfl (dN z220 rfl (oNl rfl rfl rfl)) <| sT rfl (dN z220 rfl (oFA (r' := .mp 0 0 1) rfl fF218_1 rfl rfl)) <| sT rfl (dN z220 rfl (oIAA (r' := .mp 0 0 (1 + (press_7_e0_3).toNat * 1)) rfl uF216 zF2 rfl (ix0 hx75) (ixB hx75) rfl rfl)) <| sS (dN z220 rfl (oStA (iEq.1 (iEq.2 hc7)) tF2 rfl rfl rfl (tkI tk0) rfl rfl rfl)) trivial (sD (by kernel_rfl))
      · rw [if_neg hc7] at hm10
        by_cases hc8 : press_7_e0_3 = 1
        · rw [if_pos hc8] at hm10
          cases hm10
          exact sT rfl (dN z220 rfl (oMv rfl rfl)) <| sT rfl (dN z220 rfl (oMv rfl rfl)) <| sT rfl (dN z220 rfl (oFA (r' := .mp 10 0 3) rfl fF279_3 rfl rfl)) <| sT rfl (dN z220 rfl (oLd (cs := [.im 0 _]) rfl tF2 rfl rfl)) <| sT rfl (dN z220 rfl (oNl rfl rfl rfl)) <| sT rfl (dN z220 rfl (oFA (r' := .mp 0 0 1) rfl fF218_1 rfl rfl)) <| sT rfl (dN z220 rfl (oIAA (r' := .mp 0 0 (1 + (press_7_e0_3).toNat * 1)) rfl uF216 zF2 rfl (ix0 hx75) (ixB hx75) rfl rfl)) <| sS (dN z220 rfl (oStA (iEq.1 (iEq.2 hc8)) tF2 rfl rfl rfl (tkI tk0) rfl rfl rfl)) trivial (sD (by kernel_rfl))
        · rw [if_neg hc8] at hm10
          by_cases hc9 : press_7_e0_3 = 2
          · rw [if_pos hc9] at hm10
            cases hm10
            exact sT rfl (dN z220 rfl (oMv rfl rfl)) <| sT rfl (dN z220 rfl (oMv rfl rfl)) <| sT rfl (dN z220 rfl (oFA (r' := .mp 10 0 3) rfl fF279_3 rfl rfl)) <| sT rfl (dN z220 rfl (oLd (cs := [.im 0 _]) rfl tF2 rfl rfl)) <| sT rfl (dN z220 rfl (oNl rfl rfl rfl)) <| sT rfl (dN z220 rfl (oFA (r' := .mp 0 0 1) rfl fF218_1 rfl rfl)) <| sT rfl (dN z220 rfl (oIAA (r' := .mp 0 0 (1 + (press_7_e0_3).toNat * 1)) rfl uF216 zF2 rfl (ix0 hx75) (ixB hx75) rfl rfl)) <| sS (dN z220 rfl (oStA (iEq.1 (iEq.2 hc9)) tF2 rfl rfl rfl (tkI tk0) rfl rfl rfl)) trivial (sD (by kernel_rfl))
          · rw [if_neg hc9] at hm10
            cases hm10
            exact sT rfl (dN z220 rfl (oMv rfl rfl)) <| sT rfl (dN z220 rfl (oMv rfl rfl)) <| sT rfl (dN z220 rfl (oFA (r' := .mp 10 0 3) rfl fF279_3 rfl rfl)) <| sT rfl (dN z220 rfl (oLd (cs := [.im 0 _]) rfl tF2 rfl rfl)) <| sT rfl (dN z220 rfl (oNl rfl rfl rfl)) <| sT rfl (dN z220 rfl (oFA (r' := .mp 0 0 1) rfl fF218_1 rfl rfl)) <| sT rfl (dN z220 rfl (oIAA (r' := .mp 0 0 (1 + (press_7_e0_3).toNat * 1)) rfl uF216 zF2 rfl (ix0 hx75) (ixB hx75) rfl rfl)) <| sS (dN z220 rfl (oStA (ixL4 hx75 (byF iEq hc7) (byF iEq hc8) (byF iEq hc9)) tF2 rfl rfl rfl (tkI tk0) rfl rfl rfl)) trivial (sD (by kernel_rfl))
    · refine Unw.seq ?_
      refine Go.seq ?_
      refine Go.dr c220 rfl rfl rfl rfl (mk [(6, .v false [.mp 6 0 0]), (10, .v false [.mp 10 0 0])] [(0, some ⟨0, 0, true, true, false, true, [⟨.imm, 0, 0, .sc (.int .i64 (w64 ((max2 g_0.ready (w64 (x35 - b_1.Open))) + b_1.Spread)))⟩, ⟨.imm, 0, 0, .sc (.int .i64 g_o0_1_m13)⟩, ⟨.imm, 0, 0, .sc (.int .i64 g_o0_2_m13)⟩, ⟨.imm, 0, 0, .sc (.int .i64 g_o0_3_m13)⟩, ⟨.imm, 0, 0, .sc (.int .i64 g_o0_4_m13)⟩, ⟨.imm, 0, 0, .sc (.int .i64 (max2 g_0.end_ (w64 ((max2 (w64 ((max2 g_0.ready (w64 (x35 - b_1.Open))) + b_1.Spread)) x35) + b_1.Press))))⟩]⟩), (6, some ⟨0, 0, false, true, false, true, [⟨.imm, 0, 0, .sc (.int .i64 0)⟩, ⟨.imm, 0, 0, .sc (.int .i64 0)⟩, ⟨.imm, 0, 0, .sc (.int .i64 0)⟩, ⟨.imm, 0, 0, .sc (.int .i64 0)⟩]⟩), (10, some ⟨0, 0, false, true, false, true, [⟨.imm, 0, 0, .sc (.int .i64 (max2 g_0.ready (w64 (x35 - b_1.Open))))⟩, ⟨.imm, 0, 0, .sc (.int .i64 press_7_e0_3)⟩, ⟨.imm, 0, 0, .sc (.int .i64 (max2 (w64 ((max2 g_0.ready (w64 (x35 - b_1.Open))) + b_1.Spread)) x35))⟩, ⟨.imm, 0, 0, .sc (.int .i64 (w64 ((max2 (w64 ((max2 g_0.ready (w64 (x35 - b_1.Open))) + b_1.Spread)) x35) + b_1.Press)))⟩]⟩)]) (sT rfl (dN z220 rfl (oMv rfl rfl)) <| sT rfl (dN z220 rfl (oMv rfl rfl)) <| sT rfl (dN z220 rfl (oNl rfl rfl rfl)) <| sT rfl (dN z220 rfl (oFA (r' := .mp 0 0 5) rfl fF218_2 rfl rfl)) <| sT rfl (dN z220 rfl (oLd (cs := [.im 0 _]) rfl tF2 rfl rfl)) <| sT rfl (dN z220 rfl (oFA (r' := .mp 10 0 3) rfl fF279_3 rfl rfl)) <| sT rfl (dN z220 rfl (oLd (cs := [.im 0 _]) rfl tF2 rfl rfl)) <| sS (dN z220 rfl (oMax rfl rfl)) trivial (sT rfl (dN z220 rfl (oNl rfl rfl rfl)) <| sT rfl (dN z220 rfl (oFA (r' := .mp 0 0 5) rfl fF218_2 rfl rfl)) <| sS (dN z220 rfl (oSt tF2 rfl rfl rfl (tkI tk0) rfl rfl rfl)) trivial (sD (by kernel_rfl)))) ?_
      refine Unw.seq ?_
      refine Go.seq ?_
      refine Go.r0 c220 rfl rfl (sq z220 (oLd (cs := [.im 0 _, .im 0 _, .im 0 _, .im 0 _]) rfl tF279 rfl rfl) <| sq z220 (oSt tF279 rfl rfl rfl (tkI (tkI (tkI (tkI tk0)))) rfl rfl rfl) <| nl) ?_
      refine Unw.seq ?_
      refine Go.ret (Unw.ret ?_)
      cases h
      exact Fin_ret (fin_of rfl rF220 rfl (by kernel_rfl))
theorem L_impl_glueSearch_run_F {self : (S_glueSearch × (List Int) × S_gluing) → Option (Bool × S_glueSearch)}  (ih : ∀ {s_0 : S_glueSearch} {order_1 : (List Int)} {g_2 : S_gluing} {r : (Bool × S_glueSearch)}, self (s_0, order_1, g_2) = some r → FL Try.prog cfg 138 [.ptr true [(.imm, .row 4 (List.map e_S_Bond s_0.list)), (.imm, .sc (.int .i64 s_0.presses)), (.imm, .sc (.int .i64 s_0.left)), (.imm, .sc (.bool s_0.found)), (.sh, .row 1 (List.map eI s_0.best)), (.imm, .sc (.int .i64 s_0.least))], .mv 1 (List.map eI order_1), .im 2 true [.sc (.int .i64 g_2.ready), .sc (.int .i64 g_2.free.e0), .sc (.int .i64 g_2.free.e1), .sc (.int .i64 g_2.free.e2), .sc (.int .i64 g_2.free.e3), .sc (.int .i64 g_2.end_)]] = some ([(false, [.im 0 (.sc (.bool r.1))])], [.ptr true [(.imm, .row 4 (List.map e_S_Bond r.2.list)), (.imm, .sc (.int .i64 r.2.presses)), (.imm, .sc (.int .i64 r.2.left)), (.imm, .sc (.bool r.2.found)), (.sh, .row 1 (List.map eI r.2.best)), (.imm, .sc (.int .i64 r.2.least))]])) {s_0 : S_glueSearch} {order_1 : (List Int)} {g_2 : S_gluing} {r : (Bool × S_glueSearch)} (h : impl_glueSearch_run_F self s_0 order_1 g_2 = some r) : FL Try.prog cfg 138 [.ptr true [(.imm, .row 4 (List.map e_S_Bond s_0.list)), (.imm, .sc (.int .i64 s_0.presses)), (.imm, .sc (.int .i64 s_0.left)), (.imm, .sc (.bool s_0.found)), (.sh, .row 1 (List.map eI s_0.best)), (.imm, .sc (.int .i64 s_0.least))], .mv 1 (List.map eI order_1), .im 2 true [.sc (.int .i64 g_2.ready), .sc (.int .i64 g_2.free.e0), .sc (.int .i64 g_2.free.e1), .sc (.int .i64 g_2.free.e2), .sc (.int .i64 g_2.free.e3), .sc (.int .i64 g_2.end_)]] = some ([(false, [.im 0 (.sc (.bool r.1))])], [.ptr true [(.imm, .row 4 (List.map e_S_Bond r.2.list)), (.imm, .sc (.int .i64 r.2.presses)), (.imm, .sc (.int .i64 r.2.left)), (.imm, .sc (.bool r.2.found)), (.sh, .row 1 (List.map eI r.2.best)), (.imm, .sc (.int .i64 r.2.least))]]) := by
  unfold impl_glueSearch_run_F at h
  refine FL_goS (A := [(0, .v false [.mp 0 0 0]), (1, .v false [.own 1 0 0]), (2, .v true [.im 2 (.sc (.int .i64 g_2.ready)), .im 2 (.sc (.int .i64 g_2.free.e0)), .im 2 (.sc (.int .i64 g_2.free.e1)), .im 2 (.sc (.int .i64 g_2.free.e2)), .im 2 (.sc (.int .i64 g_2.free.e3)), .im 2 (.sc (.int .i64 g_2.end_))])]) (B := [(0, some ⟨0, 0, true, true, false, true, [⟨.imm, 0, 1, .row 4 (List.map e_S_Bond s_0.list)⟩, ⟨.imm, 0, 0, .sc (.int .i64 s_0.presses)⟩, ⟨.imm, 0, 0, .sc (.int .i64 s_0.left)⟩, ⟨.imm, 0, 0, .sc (.bool s_0.found)⟩, ⟨.sh, 0, 0, .row 1 (List.map eI s_0.best)⟩, ⟨.imm, 0, 0, .sc (.int .i64 s_0.least)⟩]⟩), (1, some ⟨0, 0, false, false, false, false, [⟨.sh, 0, 0, .row 1 (List.map eI order_1)⟩]⟩), (2, none)]) (nt := 87) rfl rfl Try.func138 rfl rfl rfl rfl ?_
  refine Go.seq ?_
  refine Go.r0 c138 rfl rfl (sq z138 (oBx rfl tF218 rfl (tkI (tkI (tkI (tkI (tkI (tkI tk0))))))) <| sq z138 (oAsI rfl rfl) <| nl) ?_
  refine Unw.seq ?_
  refine Go.seq ?_
  refine Go.seq ?_
  refine Go.r1 c138 rfl rfl (st1 := mk [(0, .v false [.mp 0 0 0]), (1, .v false [.own 1 0 0]), (5, .v false [.mp 5 0 0])] [(0, some ⟨0, 0, true, true, false, true, [⟨.imm, 0, 1, .row 4 (List.map e_S_Bond s_0.list)⟩, ⟨.imm, 0, 0, .sc (.int .i64 s_0.presses)⟩, ⟨.imm, 0, 0, .sc (.int .i64 s_0.left)⟩, ⟨.imm, 0, 0, .sc (.bool s_0.found)⟩, ⟨.sh, 0, 0, .row 1 (List.map eI s_0.best)⟩, ⟨.imm, 0, 0, .sc (.int .i64 s_0.least)⟩]⟩), (1, some ⟨0, 0, false, false, false, false, [⟨.sh, 0, 0, .row 1 (List.map eI order_1)⟩]⟩), (5, some ⟨0, 0, false, true, false, true, [⟨.imm, 0, 0, .sc (.int .i64 g_2.ready)⟩, ⟨.imm, 0, 0, .sc (.int .i64 g_2.free.e0)⟩, ⟨.imm, 0, 0, .sc (.int .i64 g_2.free.e1)⟩, ⟨.imm, 0, 0, .sc (.int .i64 g_2.free.e2)⟩, ⟨.imm, 0, 0, .sc (.int .i64 g_2.free.e3)⟩, ⟨.imm, 0, 0, .sc (.int .i64 g_2.end_)⟩]⟩)]) (by kernel_rfl) (sq z138 (oMv rfl rfl) <| sq z138 (oLnO rfl rfl uF27 rfl rfl rfl (fun e => nomatch e)) <| sq z138 (oMv rfl rfl) <| sq z138 (oNl rfl rfl rfl) <| sq z138 (oFA (r' := .mp 0 0 0) rfl fF214_0 rfl rfl) <| sq z138 (oLd (cs := [.im 1 _]) rfl tF81 rfl rfl) <| sq z138 (oLnI rfl rfl uF81 rfl) <| sq z138 (oBi rfl rfl rfl rfl) <| nl) ?_
  refine Unw.seq ?_
  by_cases hc1 : (order_1.length : Int) = (s_0.list.length : Int)
  · rw [if_pos hc1] at h
    refine Go.condT rfl (iEq.2 hc1) ?_
    refine Go.seq ?_
    refine Go.dr c138 rfl rfl rfl rfl (mk [] [(0, some ⟨0, 0, true, true, false, true, [⟨.imm, 0, 1, .row 4 (List.map e_S_Bond s_0.list)⟩, ⟨.imm, 0, 0, .sc (.int .i64 s_0.presses)⟩, ⟨.imm, 0, 0, .sc (.int .i64 s_0.left)⟩, ⟨.imm, 0, 0, .sc (.bool true)⟩, ⟨.sh, 0, 0, .row 1 (List.map eI order_1)⟩, ⟨.imm, 0, 0, .sc (.int .i64 g_2.end_)⟩]⟩)]) (sT rfl (dN z138 rfl (oMv rfl rfl)) <| sT rfl (dN z138 rfl (oMv rfl rfl)) <| sT rfl (dN z138 rfl (oMv rfl rfl)) <| sT rfl (dN z138 rfl (oMv rfl rfl)) <| sT rfl (dN z138 rfl (oNl rfl rfl rfl)) <| sT rfl (dN z138 rfl (oFA (r' := .mp 0 0 3) rfl fF214_3 rfl rfl)) <| sF (dN z138 rfl (oFA (r' := .mp 5 0 5) rfl fF218_2 rfl rfl)) trivial (sF (dN z138 rfl (oLd (cs := [.im 0 _]) rfl tF2 rfl rfl)) trivial (sS (dN z138 rfl (oSt tF4 rfl rfl rfl (tkI tk0) rfl rfl rfl)) trivial (sT rfl (dN z138 rfl (oNl rfl rfl rfl)) <| sT rfl (dN z138 rfl (oFA (r' := .mp 0 0 4) rfl fF214_4 rfl rfl)) <| sS (dN z138 rfl (oSt tF27 rfl rfl rfl (tkO rfl rfl tk0) rfl rfl rfl)) trivial (sT rfl (dN z138 rfl (oNl rfl rfl rfl)) <| sT rfl (dN z138 rfl (oFA (r' := .mp 0 0 5) rfl fF214_5 rfl rfl)) <| sS (dN z138 rfl (oSt tF2 rfl rfl rfl (tkI tk0) rfl rfl rfl)) trivial (sD (by kernel_rfl))))) (sS (dN z138 rfl (oSt tF4 rfl rfl rfl (tkI tk0) rfl rfl rfl)) trivial (sT rfl (dN z138 rfl (oNl rfl rfl rfl)) <| sT rfl (dN z138 rfl (oFA (r' := .mp 0 0 4) rfl fF214_4 rfl rfl)) <| sF (dN z138 rfl (oLd (cs := [.im 0 _]) rfl tF2 rfl rfl)) trivial (sS (dN z138 rfl (oSt tF27 rfl rfl rfl (tkO rfl rfl tk0) rfl rfl rfl)) trivial (sT rfl (dN z138 rfl (oNl rfl rfl rfl)) <| sT rfl (dN z138 rfl (oFA (r' := .mp 0 0 5) rfl fF214_5 rfl rfl)) <| sS (dN z138 rfl (oSt tF2 rfl rfl rfl (tkI tk0) rfl rfl rfl)) trivial (sD (by kernel_rfl)))) (sS (dN z138 rfl (oSt tF27 rfl rfl rfl (tkO rfl rfl tk0) rfl rfl rfl)) trivial (sT rfl (dN z138 rfl (oLd (cs := [.im 0 _]) rfl tF2 rfl rfl)) <| sT rfl (dN z138 rfl (oNl rfl rfl rfl)) <| sT rfl (dN z138 rfl (oFA (r' := .mp 0 0 5) rfl fF214_5 rfl rfl)) <| sS (dN z138 rfl (oSt tF2 rfl rfl rfl (tkI tk0) rfl rfl rfl)) trivial (sD (by kernel_rfl))))))) (sS (dN z138 rfl (oSt tF4 rfl rfl rfl (tkI tk0) rfl rfl rfl)) trivial (sT rfl (dN z138 rfl (oNl rfl rfl rfl)) <| sT rfl (dN z138 rfl (oFA (r' := .mp 0 0 4) rfl fF214_4 rfl rfl)) <| sF (dN z138 rfl (oFA (r' := .mp 5 0 5) rfl fF218_2 rfl rfl)) trivial (sF (dN z138 rfl (oLd (cs := [.im 0 _]) rfl tF2 rfl rfl)) trivial (sS (dN z138 rfl (oSt tF27 rfl rfl rfl (tkO rfl rfl tk0) rfl rfl rfl)) trivial (sT rfl (dN z138 rfl (oNl rfl rfl rfl)) <| sT rfl (dN z138 rfl (oFA (r' := .mp 0 0 5) rfl fF214_5 rfl rfl)) <| sS (dN z138 rfl (oSt tF2 rfl rfl rfl (tkI tk0) rfl rfl rfl)) trivial (sD (by kernel_rfl)))) (sS (dN z138 rfl (oSt tF27 rfl rfl rfl (tkO rfl rfl tk0) rfl rfl rfl)) trivial (sT rfl (dN z138 rfl (oLd (cs := [.im 0 _]) rfl tF2 rfl rfl)) <| sT rfl (dN z138 rfl (oNl rfl rfl rfl)) <| sT rfl (dN z138 rfl (oFA (r' := .mp 0 0 5) rfl fF214_5 rfl rfl)) <| sS (dN z138 rfl (oSt tF2 rfl rfl rfl (tkI tk0) rfl rfl rfl)) trivial (sD (by kernel_rfl))))) (sS (dN z138 rfl (oSt tF27 rfl rfl rfl (tkO rfl rfl tk0) rfl rfl rfl)) trivial (sT rfl (dN z138 rfl (oFA (r' := .mp 5 0 5) rfl fF218_2 rfl rfl)) <| sT rfl (dN z138 rfl (oLd (cs := [.im 0 _]) rfl tF2 rfl rfl)) <| sT rfl (dN z138 rfl (oNl rfl rfl rfl)) <| sT rfl (dN z138 rfl (oFA (r' := .mp 0 0 5) rfl fF214_5 rfl rfl)) <| sS (dN z138 rfl (oSt tF2 rfl rfl rfl (tkI tk0) rfl rfl rfl)) trivial (sD (by kernel_rfl))))))) ?_
    refine Unw.seq ?_
    refine Go.seq ?_
    refine Go.r0 c138 rfl rfl (sq z138 (oAsI rfl rfl) <| nl) ?_
    refine Unw.seq ?_
    refine Go.ret (Unw.ret ?_)
    cases h
    exact Fin_ret (fin_of rfl rF138 rfl (by kernel_rfl))
  · rw [if_neg hc1] at h
    refine Go.condF rfl (byF iEq hc1) ?_
    refine Go.skip ?_
    refine Unw.seq ?_
    refine Go.seq ?_
    refine Go.seq ?_
    refine Go.r0 c138 rfl rfl (sq z138 (oMv rfl rfl) <| sq z138 (oNl rfl rfl rfl) <| sq z138 (oFA (r' := .mp 0 0 0) rfl fF214_0 rfl rfl) <| sq z138 (oLd (cs := [.im 1 _]) rfl tF81 rfl rfl) <| sq z138 (oLnI rfl rfl uF81 rfl) <| sq z138 (oMv rfl rfl) <| nl) ?_
    refine Unw.seq ?_
    refine Go.block ?_
    obtain ⟨o, hl, h⟩ := bs h
    refine Go.lp c138 rfl _ (fun (s : (Int × (List S_Bond) × Int × Int × Bool × (List Int) × Int)) => match s with | (t_34_l5, s_o0_0_l5, s_o0_1_l5, s_o0_2_l5, s_o0_3_l5, s_o0_4_l5, s_o0_5_l5) => mk [(0, .v false [.mp 0 0 0]), (1, .v false [.own 1 0 0]), (5, .v false [.mp 5 0 0]), (33, iv (s_0.list.length : Int)), (34, iv t_34_l5)] [(0, some ⟨0, 0, true, true, false, true, [⟨.imm, 0, 1, .row 4 (List.map e_S_Bond s_o0_0_l5)⟩, ⟨.imm, 0, 0, .sc (.int .i64 s_o0_1_l5)⟩, ⟨.imm, 0, 0, .sc (.int .i64 s_o0_2_l5)⟩, ⟨.imm, 0, 0, .sc (.bool s_o0_3_l5)⟩, ⟨.sh, 0, 0, .row 1 (List.map eI s_o0_4_l5)⟩, ⟨.imm, 0, 0, .sc (.int .i64 s_o0_5_l5)⟩]⟩), (1, some ⟨0, 0, false, false, false, false, [⟨.sh, 0, 0, .row 1 (List.map eI order_1)⟩]⟩), (5, some ⟨0, 0, false, true, false, true, [⟨.imm, 0, 0, .sc (.int .i64 g_2.ready)⟩, ⟨.imm, 0, 0, .sc (.int .i64 g_2.free.e0)⟩, ⟨.imm, 0, 0, .sc (.int .i64 g_2.free.e1)⟩, ⟨.imm, 0, 0, .sc (.int .i64 g_2.free.e2)⟩, ⟨.imm, 0, 0, .sc (.int .i64 g_2.free.e3)⟩, ⟨.imm, 0, 0, .sc (.int .i64 g_2.end_)⟩]⟩)]) (fun (o : (((List S_Bond) × Int × Int × Bool × (List Int) × Int) ⊕ (Bool × S_glueSearch))) (p : Ex × St) => match o with | (.inl (s_o0_0_e0_5, s_o0_1_e0_5, s_o0_2_e0_5, s_o0_3_e0_5, s_o0_4_e0_5, s_o0_5_e0_5)) => p.1 = .exit 0 ∧ p.2.norm ([], [0]) = mk [] [(0, some ⟨0, 0, true, true, false, true, [⟨.imm, 0, 1, .row 4 (List.map e_S_Bond s_o0_0_e0_5)⟩, ⟨.imm, 0, 0, .sc (.int .i64 s_o0_1_e0_5)⟩, ⟨.imm, 0, 0, .sc (.int .i64 s_o0_2_e0_5)⟩, ⟨.imm, 0, 0, .sc (.bool s_o0_3_e0_5)⟩, ⟨.sh, 0, 0, .row 1 (List.map eI s_o0_4_e0_5)⟩, ⟨.imm, 0, 0, .sc (.int .i64 s_o0_5_e0_5)⟩]⟩)] | (.inr r2) => p.1 = .ret ∧ fin Try.prog cfg 138 Try.f138 [.ptr true [(.imm, .row 4 (List.map e_S_Bond s_0.list)), (.imm, .sc (.int .i64 s_0.presses)), (.imm, .sc (.int .i64 s_0.left)), (.imm, .sc (.bool s_0.found)), (.sh, .row 1 (List.map eI s_0.best)), (.imm, .sc (.int .i64 s_0.least))], .mv 1 (List.map eI order_1), .im 2 true [.sc (.int .i64 g_2.ready), .sc (.int .i64 g_2.free.e0), .sc (.int .i64 g_2.free.e1), .sc (.int .i64 g_2.free.e2), .sc (.int .i64 g_2.free.e3), .sc (.int .i64 g_2.end_)]] p.2 = some ([(false, [.im 0 (.sc (.bool r2.1))])], [.ptr true [(.imm, .row 4 (List.map e_S_Bond r2.2.list)), (.imm, .sc (.int .i64 r2.2.presses)), (.imm, .sc (.int .i64 r2.2.left)), (.imm, .sc (.bool r2.2.found)), (.sh, .row 1 (List.map eI r2.2.best)), (.imm, .sc (.int .i64 r2.2.least))]])) hl (by kernel_rfl) ?_ ?_ ?_
    · intro o p hp e
      rcases o with ⟨s_o0_0_e0_5, s_o0_1_e0_5, s_o0_2_e0_5, s_o0_3_e0_5, s_o0_4_e0_5, s_o0_5_e0_5⟩ | r2 <;> exact nomatch (hp.1.symm.trans e)
    · rintro ⟨t_34_l5, s_o0_0_l5, s_o0_1_l5, s_o0_2_l5, s_o0_3_l5, s_o0_4_l5, s_o0_5_l5⟩ o h
      unfold impl_glueSearch_run_l5 at h
      dsimp only at h
      refine Go.seq ?_
      refine Go.r0 c138 rfl rfl (sq z138 (oBi rfl rfl rfl rfl) <| nl) ?_
      refine Unw.seq ?_
      refine Go.seq ?_
      by_cases hc14 : t_34_l5 < (s_0.list.length : Int)
      · rw [if_pos hc14] at h
        refine Go.condT rfl (iDec.2 hc14) ?_
        refine Go.skip ?_
        refine Unw.seq ?_
        refine Go.seq ?_
        refine Go.join (fun st => ∃ s_o0_0_r16, ∃ s_o0_1_r16, ∃ s_o0_2_r16, ∃ s_o0_3_r16, ∃ s_o0_4_r16, ∃ s_o0_5_r16, impl_glueSearch_run_k16 self t_34_l5 s_o0_0_r16 s_o0_1_r16 s_o0_2_r16 s_o0_3_r16 s_o0_4_r16 s_o0_5_r16 = some o ∧ st.norm ([0, 1, 5, 33, 34], [0, 1, 5]) = mk [(0, .v false [.mp 0 0 0]), (1, .v false [.own 1 0 0]), (5, .v false [.mp 5 0 0]), (33, iv (s_0.list.length : Int)), (34, iv t_34_l5)] [(0, some ⟨0, 0, true, true, false, true, [⟨.imm, 0, 1, .row 4 (List.map e_S_Bond s_o0_0_r16)⟩, ⟨.imm, 0, 0, .sc (.int .i64 s_o0_1_r16)⟩, ⟨.imm, 0, 0, .sc (.int .i64 s_o0_2_r16)⟩, ⟨.imm, 0, 0, .sc (.bool s_o0_3_r16)⟩, ⟨.sh, 0, 0, .row 1 (List.map eI s_o0_4_r16)⟩, ⟨.imm, 0, 0, .sc (.int .i64 s_o0_5_r16)⟩]⟩), (1, some ⟨0, 0, false, false, false, false, [⟨.sh, 0, 0, .row 1 (List.map eI order_1)⟩]⟩), (5, some ⟨0, 0, false, true, false, true, [⟨.imm, 0, 0, .sc (.int .i64 g_2.ready)⟩, ⟨.imm, 0, 0, .sc (.int .i64 g_2.free.e0)⟩, ⟨.imm, 0, 0, .sc (.int .i64 g_2.free.e1)⟩, ⟨.imm, 0, 0, .sc (.int .i64 g_2.free.e2)⟩, ⟨.imm, 0, 0, .sc (.int .i64 g_2.free.e3)⟩, ⟨.imm, 0, 0, .sc (.int .i64 g_2.end_)⟩]⟩)]) ?_ ?_
        · rintro st ⟨s_o0_0_r16, s_o0_1_r16, s_o0_2_r16, s_o0_3_r16, s_o0_4_r16, s_o0_5_r16, h, hst⟩
          unfold impl_glueSearch_run_k16 at h
          refine Unw.seq ?_
          refine Go.r1 c138 rfl rfl hst (sq z138 (oBi rfl rfl rfl rfl) <| sq z138 (oMv rfl rfl) <| nl) ?_
          refine Unw.nil ?_
          cases h
          exact ⟨rfl, (by kernel_rfl)⟩
        · intro K20
          refine Go.block ?_
          refine Go.seq ?_
          refine Go.r0 c138 rfl rfl (sq z138 (oMv rfl rfl) <| sq z138 (oAsI rfl rfl) <| nl) ?_
          refine Unw.seq ?_
          refine Go.seq ?_
          refine Go.seq ?_
          obtain ⟨x39, hx39, h⟩ := bs h
          refine Go.r0 c138 rfl rfl (sq z138 (oMv rfl rfl) <| sq z138 (oMv rfl rfl) <| sq z138 (oCa (xs := [.v false [.own 1 0 0], .v false [.im 0 _]]) (vs := [(false, [.im 0 _])]) (v := .v false [.im 0 _]) (L_slices_Contains_int64_int64 hx39) (.inl rfl) rfl kF152_27_2 rfl (ppC rfl (ppC rfl pp0)) rfl rfl pb0 rfl rfl rfl) <| nl) ?_
          refine Unw.seq ?_
          by_cases hc21 : x39 = true
          · rw [if_pos hc21] at h
            refine Go.condT rfl (Iff.rfl.2 hc21) ?_
            refine Go.exit ?_
            refine Unw.seqx ?_
            refine Unw.blkx ?_
            exact K20 _ ⟨s_o0_0_l5, s_o0_1_l5, s_o0_2_l5, s_o0_3_l5, s_o0_4_l5, s_o0_5_l5, h, (by kernel_rfl)⟩
          · rw [if_neg hc21] at h
            refine Go.condF rfl (byF Iff.rfl hc21) ?_
            refine Go.skip ?_
            refine Unw.seq ?_
            refine Go.seq ?_
            refine Go.r0 c138 rfl rfl (sq z138 (oLd (cs := [.im 0 _, .im 0 _, .im 0 _, .im 0 _, .im 0 _, .im 0 _]) rfl tF218 rfl rfl) <| sq z138 (oAl rfl tF218 (tkI (tkI (tkI (tkI (tkI (tkI tk0))))))) <| sq z138 (oSt tF218 rfl rfl rfl (tkI (tkI (tkI (tkI (tkI (tkI tk0)))))) rfl rfl rfl) <| nl) ?_
            refine Unw.seq ?_
            refine Go.seq ?_
            obtain ⟨x46, hx46, h⟩ := bs h
            obtain ⟨x52, hx52, h⟩ := bs h
            refine Go.dr c138 rfl rfl rfl (st1 := mk [(0, .v false [.mp 0 0 0]), (1, .v false [.own 1 0 0]), (5, .v false [.mp 5 0 0]), (7, iv t_34_l5), (8, .v false [.mp 8 0 0]), (33, iv (s_0.list.length : Int)), (34, iv t_34_l5)] [(0, some ⟨0, 0, true, true, false, true, [⟨.imm, 0, 1, .row 4 (List.map e_S_Bond s_o0_0_l5)⟩, ⟨.imm, 0, 0, .sc (.int .i64 s_o0_1_l5)⟩, ⟨.imm, 0, 0, .sc (.int .i64 s_o0_2_l5)⟩, ⟨.imm, 0, 0, .sc (.bool s_o0_3_l5)⟩, ⟨.sh, 0, 0, .row 1 (List.map eI s_o0_4_l5)⟩, ⟨.imm, 0, 0, .sc (.int .i64 s_o0_5_l5)⟩]⟩), (1, some ⟨0, 0, false, false, false, false, [⟨.sh, 0, 0, .row 1 (List.map eI order_1)⟩]⟩), (5, some ⟨0, 0, false, true, false, true, [⟨.imm, 0, 0, .sc (.int .i64 g_2.ready)⟩, ⟨.imm, 0, 0, .sc (.int .i64 g_2.free.e0)⟩, ⟨.imm, 0, 0, .sc (.int .i64 g_2.free.e1)⟩, ⟨.imm, 0, 0, .sc (.int .i64 g_2.free.e2)⟩, ⟨.imm, 0, 0, .sc (.int .i64 g_2.free.e3)⟩, ⟨.imm, 0, 0, .sc (.int .i64 g_2.end_)⟩]⟩), (8, some ⟨0, 0, false, true, false, true, [⟨.imm, 0, 0, .sc (.int .i64 g_2.ready)⟩, ⟨.imm, 0, 0, .sc (.int .i64 g_2.free.e0)⟩, ⟨.imm, 0, 0, .sc (.int .i64 g_2.free.e1)⟩, ⟨.imm, 0, 0, .sc (.int .i64 g_2.free.e2)⟩, ⟨.imm, 0, 0, .sc (.int .i64 g_2.free.e3)⟩, ⟨.imm, 0, 0, .sc (.int .i64 g_2.end_)⟩]⟩)]) (by kernel_rfl) (mk [(0, .v false [.mp 0 0 0]), (1, .v false [.own 1 0 0]), (5, .v false [.mp 5 0 0]), (7, iv t_34_l5), (8, .v false [.mp 8 0 0]), (33, iv (s_0.list.length : Int)), (34, iv t_34_l5)] [(0, some ⟨0, 0, true, true, false, true, [⟨.imm, 0, 1, .row 4 (List.map e_S_Bond s_o0_0_l5)⟩, ⟨.imm, 0, 0, .sc (.int .i64 s_o0_1_l5)⟩, ⟨.imm, 0, 0, .sc (.int .i64 s_o0_2_l5)⟩, ⟨.imm, 0, 0, .sc (.bool s_o0_3_l5)⟩, ⟨.sh, 0, 0, .row 1 (List.map eI s_o0_4_l5)⟩, ⟨.imm, 0, 0, .sc (.int .i64 s_o0_5_l5)⟩]⟩), (1, some ⟨0, 0, false, false, false, false, [⟨.sh, 0, 0, .row 1 (List.map eI order_1)⟩]⟩), (5, some ⟨0, 0, false, true, false, true, [⟨.imm, 0, 0, .sc (.int .i64 g_2.ready)⟩, ⟨.imm, 0, 0, .sc (.int .i64 g_2.free.e0)⟩, ⟨.imm, 0, 0, .sc (.int .i64 g_2.free.e1)⟩, ⟨.imm, 0, 0, .sc (.int .i64 g_2.free.e2)⟩, ⟨.imm, 0, 0, .sc (.int .i64 g_2.free.e3)⟩, ⟨.imm, 0, 0, .sc (.int .i64 g_2.end_)⟩]⟩), (8, some ⟨0, 0, false, true, false, true, [⟨.imm, 0, 0, .sc (.int .i64 x52.2.ready)⟩, ⟨.imm, 0, 0, .sc (.int .i64 x52.2.free.e0)⟩, ⟨.imm, 0, 0, .sc (.int .i64 x52.2.free.e1)⟩, ⟨.imm, 0, 0, .sc (.int .i64 x52.2.free.e2)⟩, ⟨.imm, 0, 0, .sc (.int .i64 x52.2.free.e3)⟩, ⟨.imm, 0, 0, .sc (.int .i64 x52.2.end_)⟩]⟩)]) (sT rfl (dN z138 rfl (oMv rfl rfl)) <| sT rfl (dN z138 rfl (oNl rfl rfl rfl)) <| sT rfl (dN z138 rfl (oFA (r' := .mp 0 0 0) rfl fF214_0 rfl rfl)) <| sT rfl (dN z138 rfl (oLd (cs := [.im 1 _]) rfl tF81 rfl rfl)) <| sT rfl (dN z138 rfl (oMv rfl rfl)) <| sT rfl (dN z138 rfl (oIAI rfl hx46 sF81 rfl rfl)) <| sT rfl (dN z138 rfl (oLd (cs := [.im 1 _, .im 1 _, .im 1 _, .im 1 _]) rfl tF209 rfl rfl)) <| sT rfl (dN z138 rfl (oMv rfl rfl)) <| sT rfl (dN z138 rfl (oNl rfl rfl rfl)) <| sT rfl (dN z138 rfl (oFA (r' := .mp 0 0 1) rfl fF214_1 rfl rfl)) <| sT rfl (dN z138 rfl (oLd (cs := [.im 0 _]) rfl tF2 rfl rfl)) <| sS (dN z138 rfl (oCa (xs := [.v false [.mp 8 0 0], .v true [.im 1 _, .im 1 _, .im 1 _, .im 1 _], .v false [.im 0 _]]) (vs := [(true, [.im 0 _, .im 0 _, .im 0 _, .im 0 _])]) (v := .v true [.im 0 _, .im 0 _, .im 0 _, .im 0 _]) (L_impl_gluing_add hx52) (.inl rfl) rfl kF220_218_209_2 rfl (ppPx (ob' := ⟨0, 0, false, true, false, true, [⟨.imm, 0, 0, .sc (.int .i64 g_2.ready)⟩, ⟨.imm, 0, 0, .sc (.int .i64 g_2.free.e0)⟩, ⟨.imm, 0, 0, .sc (.int .i64 g_2.free.e1)⟩, ⟨.imm, 0, 0, .sc (.int .i64 g_2.free.e2)⟩, ⟨.imm, 0, 0, .sc (.int .i64 g_2.free.e3)⟩, ⟨.imm, 0, 0, .sc (.int .i64 g_2.end_)⟩]⟩) rfl rfl rfl (by kernel_rfl) (ppC rfl (ppC rfl pp0))) rfl rfl (pbPx (ob' := ⟨0, 1, false, true, false, true, [⟨.imm, 1, 0, .sc (.int .i64 x52.2.ready)⟩, ⟨.imm, 1, 0, .sc (.int .i64 x52.2.free.e0)⟩, ⟨.imm, 1, 0, .sc (.int .i64 x52.2.free.e1)⟩, ⟨.imm, 1, 0, .sc (.int .i64 x52.2.free.e2)⟩, ⟨.imm, 1, 0, .sc (.int .i64 x52.2.free.e3)⟩, ⟨.imm, 1, 0, .sc (.int .i64 x52.2.end_)⟩]⟩) rfl rfl (by kernel_rfl) pb0) rfl rfl rfl)) trivial (sD (by kernel_rfl))) ?_
            refine Unw.seq ?_
            refine Go.seq ?_
            refine Go.seq ?_
            refine Go.dr c138 rfl rfl rfl rfl (mk [(0, .v false [.mp 0 0 0]), (1, .v false [.own 1 0 0]), (5, .v false [.mp 5 0 0]), (7, iv t_34_l5), (8, .v false [.mp 8 0 0]), (33, iv (s_0.list.length : Int)), (34, iv t_34_l5), (65, bv (s_o0_3_l5 && (decide (x52.2.end_ ≥ s_o0_5_l5))))] [(0, some ⟨0, 0, true, true, false, true, [⟨.imm, 0, 1, .row 4 (List.map e_S_Bond s_o0_0_l5)⟩, ⟨.imm, 0, 0, .sc (.int .i64 s_o0_1_l5)⟩, ⟨.imm, 0, 0, .sc (.int .i64 s_o0_2_l5)⟩, ⟨.imm, 0, 0, .sc (.bool s_o0_3_l5)⟩, ⟨.sh, 0, 0, .row 1 (List.map eI s_o0_4_l5)⟩, ⟨.imm, 0, 0, .sc (.int .i64 s_o0_5_l5)⟩]⟩), (1, some ⟨0, 0, false, false, false, false, [⟨.sh, 0, 0, .row 1 (List.map eI order_1)⟩]⟩), (5, some ⟨0, 0, false, true, false, true, [⟨.imm, 0, 0, .sc (.int .i64 g_2.ready)⟩, ⟨.imm, 0, 0, .sc (.int .i64 g_2.free.e0)⟩, ⟨.imm, 0, 0, .sc (.int .i64 g_2.free.e1)⟩, ⟨.imm, 0, 0, .sc (.int .i64 g_2.free.e2)⟩, ⟨.imm, 0, 0, .sc (.int .i64 g_2.free.e3)⟩, ⟨.imm, 0, 0, .sc (.int .i64 g_2.end_)⟩]⟩), (8, some ⟨0, 0, false, true, false, true, [⟨.imm, 0, 0, .sc (.int .i64 x52.2.ready)⟩, ⟨.imm, 0, 0, .sc (.int .i64 x52.2.free.e0)⟩, ⟨.imm, 0, 0, .sc (.int .i64 x52.2.free.e1)⟩, ⟨.imm, 0, 0, .sc (.int .i64 x52.2.free.e2)⟩, ⟨.imm, 0, 0, .sc (.int .i64 x52.2.free.e3)⟩, ⟨.imm, 0, 0, .sc (.int .i64 x52.2.end_)⟩]⟩)]) ?_ ?_
            · by_cases hc22 : s_o0_3_l5 = true
              · exact sT rfl (dN z138 rfl (oMv rfl rfl)) <| sT rfl (dN z138 rfl (oNl rfl rfl rfl)) <| sT rfl (dN z138 rfl (oFA (r' := .mp 0 0 3) rfl fF214_3 rfl rfl)) <| sT rfl (dN z138 rfl (oLd (cs := [.im 0 _]) rfl tF4 rfl rfl)) <| sT rfl (dN z138 rfl (oMv rfl rfl)) <| sT rfl (dT z138 rfl rfl rfl (Iff.rfl.2 hc22) (oFA (r' := .mp 8 0 5) rfl fF218_2 rfl rfl)) <| sT rfl (dT z138 rfl rfl rfl (Iff.rfl.2 hc22) (oLd (cs := [.im 0 _]) rfl tF2 rfl rfl)) <| sT rfl (dT z138 rfl rfl rfl (Iff.rfl.2 hc22) (oMv rfl rfl)) <| sT rfl (dT z138 rfl rfl rfl (Iff.rfl.2 hc22) (oNl rfl rfl rfl)) <| sT rfl (dT z138 rfl rfl rfl (Iff.rfl.2 hc22) (oFA (r' := .mp 0 0 5) rfl fF214_5 rfl rfl)) <| sT rfl (dT z138 rfl rfl rfl (Iff.rfl.2 hc22) (oLd (cs := [.im 0 _]) rfl tF2 rfl rfl)) <| sT rfl (dT z138 rfl rfl rfl (Iff.rfl.2 hc22) (oBi rfl rfl rfl rfl)) <| sT rfl (dN z138 rfl (oPkT rfl rfl (Iff.rfl.2 hc22) rfl)) <| sD (Eq.trans (b := (fun t_65_m10 : Bool => mk [(0, .v false [.mp 0 0 0]), (1, .v false [.own 1 0 0]), (5, .v false [.mp 5 0 0]), (7, iv t_34_l5), (8, .v false [.mp 8 0 0]), (33, iv (s_0.list.length : Int)), (34, iv t_34_l5), (65, bv t_65_m10)] [(0, some ⟨0, 0, true, true, false, true, [⟨.imm, 0, 1, .row 4 (List.map e_S_Bond s_o0_0_l5)⟩, ⟨.imm, 0, 0, .sc (.int .i64 s_o0_1_l5)⟩, ⟨.imm, 0, 0, .sc (.int .i64 s_o0_2_l5)⟩, ⟨.imm, 0, 0, .sc (.bool s_o0_3_l5)⟩, ⟨.sh, 0, 0, .row 1 (List.map eI s_o0_4_l5)⟩, ⟨.imm, 0, 0, .sc (.int .i64 s_o0_5_l5)⟩]⟩), (1, some ⟨0, 0, false, false, false, false, [⟨.sh, 0, 0, .row 1 (List.map eI order_1)⟩]⟩), (5, some ⟨0, 0, false, true, false, true, [⟨.imm, 0, 0, .sc (.int .i64 g_2.ready)⟩, ⟨.imm, 0, 0, .sc (.int .i64 g_2.free.e0)⟩, ⟨.imm, 0, 0, .sc (.int .i64 g_2.free.e1)⟩, ⟨.imm, 0, 0, .sc (.int .i64 g_2.free.e2)⟩, ⟨.imm, 0, 0, .sc (.int .i64 g_2.free.e3)⟩, ⟨.imm, 0, 0, .sc (.int .i64 g_2.end_)⟩]⟩), (8, some ⟨0, 0, false, true, false, true, [⟨.imm, 0, 0, .sc (.int .i64 x52.2.ready)⟩, ⟨.imm, 0, 0, .sc (.int .i64 x52.2.free.e0)⟩, ⟨.imm, 0, 0, .sc (.int .i64 x52.2.free.e1)⟩, ⟨.imm, 0, 0, .sc (.int .i64 x52.2.free.e2)⟩, ⟨.imm, 0, 0, .sc (.int .i64 x52.2.free.e3)⟩, ⟨.imm, 0, 0, .sc (.int .i64 x52.2.end_)⟩]⟩)]) (decide (x52.2.end_ ≥ s_o0_5_l5))) (by kernel_rfl) (congrArg (fun t_65_m10 : Bool => mk [(0, .v false [.mp 0 0 0]), (1, .v false [.own 1 0 0]), (5, .v false [.mp 5 0 0]), (7, iv t_34_l5), (8, .v false [.mp 8 0 0]), (33, iv (s_0.list.length : Int)), (34, iv t_34_l5), (65, bv t_65_m10)] [(0, some ⟨0, 0, true, true, false, true, [⟨.imm, 0, 1, .row 4 (List.map e_S_Bond s_o0_0_l5)⟩, ⟨.imm, 0, 0, .sc (.int .i64 s_o0_1_l5)⟩, ⟨.imm, 0, 0, .sc (.int .i64 s_o0_2_l5)⟩, ⟨.imm, 0, 0, .sc (.bool s_o0_3_l5)⟩, ⟨.sh, 0, 0, .row 1 (List.map eI s_o0_4_l5)⟩, ⟨.imm, 0, 0, .sc (.int .i64 s_o0_5_l5)⟩]⟩), (1, some ⟨0, 0, false, false, false, false, [⟨.sh, 0, 0, .row 1 (List.map eI order_1)⟩]⟩), (5, some ⟨0, 0, false, true, false, true, [⟨.imm, 0, 0, .sc (.int .i64 g_2.ready)⟩, ⟨.imm, 0, 0, .sc (.int .i64 g_2.free.e0)⟩, ⟨.imm, 0, 0, .sc (.int .i64 g_2.free.e1)⟩, ⟨.imm, 0, 0, .sc (.int .i64 g_2.free.e2)⟩, ⟨.imm, 0, 0, .sc (.int .i64 g_2.free.e3)⟩, ⟨.imm, 0, 0, .sc (.int .i64 g_2.end_)⟩]⟩), (8, some ⟨0, 0, false, true, false, true, [⟨.imm, 0, 0, .sc (.int .i64 x52.2.ready)⟩, ⟨.imm, 0, 0, .sc (.int .i64 x52.2.free.e0)⟩, ⟨.imm, 0, 0, .sc (.int .i64 x52.2.free.e1)⟩, ⟨.imm, 0, 0, .sc (.int .i64 x52.2.free.e2)⟩, ⟨.imm, 0, 0, .sc (.int .i64 x52.2.free.e3)⟩, ⟨.imm, 0, 0, .sc (.int .i64 x52.2.end_)⟩]⟩)]) (by first | rfl | (simp [(Iff.rfl.2 hc22)]; done) | (simp [(Iff.rfl.2 hc22)]; omega))))
              · exact sT rfl (dN z138 rfl (oMv rfl rfl)) <| sT rfl (dN z138 rfl (oNl rfl rfl rfl)) <| sT rfl (dN z138 rfl (oFA (r' := .mp 0 0 3) rfl fF214_3 rfl rfl)) <| sT rfl (dN z138 rfl (oLd (cs := [.im 0 _]) rfl tF4 rfl rfl)) <| sT rfl (dN z138 rfl (oMv rfl rfl)) <| sT rfl (dF rfl rfl rfl (byF Iff.rfl hc22) rfl) <| sT rfl (dF rfl rfl rfl (byF Iff.rfl hc22) rfl) <| sT rfl (dF rfl rfl rfl (byF Iff.rfl hc22) rfl) <| sT rfl (dF rfl rfl rfl (byF Iff.rfl hc22) rfl) <| sT rfl (dF rfl rfl rfl (byF Iff.rfl hc22) rfl) <| sT rfl (dF rfl rfl rfl (byF Iff.rfl hc22) rfl) <| sT rfl (dF rfl rfl rfl (byF Iff.rfl hc22) rfl) <| sT rfl (dN z138 rfl (oPkF rfl rfl (byF Iff.rfl hc22) rfl)) <| sD (Eq.trans (b := (fun t_65_m10 : Bool => mk [(0, .v false [.mp 0 0 0]), (1, .v false [.own 1 0 0]), (5, .v false [.mp 5 0 0]), (7, iv t_34_l5), (8, .v false [.mp 8 0 0]), (33, iv (s_0.list.length : Int)), (34, iv t_34_l5), (65, bv t_65_m10)] [(0, some ⟨0, 0, true, true, false, true, [⟨.imm, 0, 1, .row 4 (List.map e_S_Bond s_o0_0_l5)⟩, ⟨.imm, 0, 0, .sc (.int .i64 s_o0_1_l5)⟩, ⟨.imm, 0, 0, .sc (.int .i64 s_o0_2_l5)⟩, ⟨.imm, 0, 0, .sc (.bool s_o0_3_l5)⟩, ⟨.sh, 0, 0, .row 1 (List.map eI s_o0_4_l5)⟩, ⟨.imm, 0, 0, .sc (.int .i64 s_o0_5_l5)⟩]⟩), (1, some ⟨0, 0, false, false, false, false, [⟨.sh, 0, 0, .row 1 (List.map eI order_1)⟩]⟩), (5, some ⟨0, 0, false, true, false, true, [⟨.imm, 0, 0, .sc (.int .i64 g_2.ready)⟩, ⟨.imm, 0, 0, .sc (.int .i64 g_2.free.e0)⟩, ⟨.imm, 0, 0, .sc (.int .i64 g_2.free.e1)⟩, ⟨.imm, 0, 0, .sc (.int .i64 g_2.free.e2)⟩, ⟨.imm, 0, 0, .sc (.int .i64 g_2.free.e3)⟩, ⟨.imm, 0, 0, .sc (.int .i64 g_2.end_)⟩]⟩), (8, some ⟨0, 0, false, true, false, true, [⟨.imm, 0, 0, .sc (.int .i64 x52.2.ready)⟩, ⟨.imm, 0, 0, .sc (.int .i64 x52.2.free.e0)⟩, ⟨.imm, 0, 0, .sc (.int .i64 x52.2.free.e1)⟩, ⟨.imm, 0, 0, .sc (.int .i64 x52.2.free.e2)⟩, ⟨.imm, 0, 0, .sc (.int .i64 x52.2.free.e3)⟩, ⟨.imm, 0, 0, .sc (.int .i64 x52.2.end_)⟩]⟩)]) false) (by kernel_rfl) (congrArg (fun t_65_m10 : Bool => mk [(0, .v false [.mp 0 0 0]), (1, .v false [.own 1 0 0]), (5, .v false [.mp 5 0 0]), (7, iv t_34_l5), (8, .v false [.mp 8 0 0]), (33, iv (s_0.list.length : Int)), (34, iv t_34_l5), (65, bv t_65_m10)] [(0, some ⟨0, 0, true, true, false, true, [⟨.imm, 0, 1, .row 4 (List.map e_S_Bond s_o0_0_l5)⟩, ⟨.imm, 0, 0, .sc (.int .i64 s_o0_1_l5)⟩, ⟨.imm, 0, 0, .sc (.int .i64 s_o0_2_l5)⟩, ⟨.imm, 0, 0, .sc (.bool s_o0_3_l5)⟩, ⟨.sh, 0, 0, .row 1 (List.map eI s_o0_4_l5)⟩, ⟨.imm, 0, 0, .sc (.int .i64 s_o0_5_l5)⟩]⟩), (1, some ⟨0, 0, false, false, false, false, [⟨.sh, 0, 0, .row 1 (List.map eI order_1)⟩]⟩), (5, some ⟨0, 0, false, true, false, true, [⟨.imm, 0, 0, .sc (.int .i64 g_2.ready)⟩, ⟨.imm, 0, 0, .sc (.int .i64 g_2.free.e0)⟩, ⟨.imm, 0, 0, .sc (.int .i64 g_2.free.e1)⟩, ⟨.imm, 0, 0, .sc (.int .i64 g_2.free.e2)⟩, ⟨.imm, 0, 0, .sc (.int .i64 g_2.free.e3)⟩, ⟨.imm, 0, 0, .sc (.int .i64 g_2.end_)⟩]⟩), (8, some ⟨0, 0, false, true, false, true, [⟨.imm, 0, 0, .sc (.int .i64 x52.2.ready)⟩, ⟨.imm, 0, 0, .sc (.int .i64 x52.2.free.e0)⟩, ⟨.imm, 0, 0, .sc (.int .i64 x52.2.free.e1)⟩, ⟨.imm, 0, 0, .sc (.int .i64 x52.2.free.e2)⟩, ⟨.imm, 0, 0, .sc (.int .i64 x52.2.free.e3)⟩, ⟨.imm, 0, 0, .sc (.int .i64 x52.2.end_)⟩]⟩)]) (by first | rfl | (simp [(byF Iff.rfl hc22)]; done) | (simp [(byF Iff.rfl hc22)]; omega))))
            · refine Unw.seq ?_
              by_cases hc23 : (s_o0_3_l5 = true ∧ x52.2.end_ ≥ s_o0_5_l5)
              · rw [if_pos hc23] at h
                refine Go.condT rfl ((iAnd Iff.rfl iDec).2 hc23) ?_
                refine Go.exit ?_
                refine Unw.seqx ?_
                refine Unw.blkx ?_
                exact K20 _ ⟨s_o0_0_l5, s_o0_1_l5, s_o0_2_l5, s_o0_3_l5, s_o0_4_l5, s_o0_5_l5, h, (by kernel_rfl)⟩
              · rw [if_neg hc23] at h
                refine Go.condF rfl (byF (iAnd Iff.rfl iDec) hc23) ?_
                refine Go.skip ?_
                refine Unw.seq ?_
                refine Go.seq ?_
                refine Go.seq ?_
                refine Go.r0 c138 rfl rfl (sq z138 (oMv rfl rfl) <| sq z138 (oNl rfl rfl rfl) <| sq z138 (oFA (r' := .mp 0 0 2) rfl fF214_2 rfl rfl) <| sq z138 (oLd (cs := [.im 0 _]) rfl tF2 rfl rfl) <| sq z138 (oBi rfl rfl rfl rfl) <| nl) ?_
                refine Unw.seq ?_
                by_cases hc24 : s_o0_2_l5 = 0
                · rw [if_pos hc24] at h
                  refine Go.condT rfl (iEq.2 hc24) ?_
                  refine Go.seq ?_
                  refine Go.r0 c138 rfl rfl (sq z138 (oAsI rfl rfl) <| nl) ?_
                  refine Unw.seq ?_
                  refine Go.ret (Unw.ret ?_)
                  cases h
                  exact ⟨rfl, (fin_of rfl rF138 rfl (by kernel_rfl))⟩
                · rw [if_neg hc24] at h
                  refine Go.condF rfl (byF iEq hc24) ?_
                  refine Go.skip ?_
                  refine Unw.seq ?_
                  refine Go.seq ?_
                  refine Go.r0 c138 rfl rfl (sq z138 (oMv rfl rfl) <| sq z138 (oNl rfl rfl rfl) <| sq z138 (oFA (r' := .mp 0 0 2) rfl fF214_2 rfl rfl) <| sq z138 (oLd (cs := [.im 0 _]) rfl tF2 rfl rfl) <| sq z138 (oBi rfl rfl rfl rfl) <| sq z138 (oNl rfl rfl rfl) <| sq z138 (oFA (r' := .mp 0 0 2) rfl fF214_2 rfl rfl) <| sq z138 (oSt tF2 rfl rfl rfl (tkI tk0) rfl rfl rfl) <| nl) ?_
                  refine Unw.seq ?_
                  refine Go.seq ?_
                  obtain ⟨x80, hx80, h⟩ := bs h
                  obtain ⟨x83, hx83, h⟩ := bs h
                  obtain ⟨x85, hx85, h⟩ := bs h
                  refine Go.dr c138 rfl rfl rfl (st1 := mk [(0, .v false [.mp 0 0 0]), (1, .v false [.own 1 0 0]), (5, .v false [.mp 5 0 0]), (7, iv t_34_l5), (8, .v false [.mp 8 0 0]), (33, iv (s_0.list.length : Int)), (34, iv t_34_l5)] [(0, some ⟨0, 0, true, true, false, true, [⟨.imm, 0, 1, .row 4 (List.map e_S_Bond s_o0_0_l5)⟩, ⟨.imm, 0, 0, .sc (.int .i64 s_o0_1_l5)⟩, ⟨.imm, 0, 0, .sc (.int .i64 (w64 (s_o0_2_l5 - 1)))⟩, ⟨.imm, 0, 0, .sc (.bool s_o0_3_l5)⟩, ⟨.sh, 0, 0, .row 1 (List.map eI s_o0_4_l5)⟩, ⟨.imm, 0, 0, .sc (.int .i64 s_o0_5_l5)⟩]⟩), (1, some ⟨0, 0, false, false, false, false, [⟨.sh, 0, 0, .row 1 (List.map eI order_1)⟩]⟩), (5, some ⟨0, 0, false, true, false, true, [⟨.imm, 0, 0, .sc (.int .i64 g_2.ready)⟩, ⟨.imm, 0, 0, .sc (.int .i64 g_2.free.e0)⟩, ⟨.imm, 0, 0, .sc (.int .i64 g_2.free.e1)⟩, ⟨.imm, 0, 0, .sc (.int .i64 g_2.free.e2)⟩, ⟨.imm, 0, 0, .sc (.int .i64 g_2.free.e3)⟩, ⟨.imm, 0, 0, .sc (.int .i64 g_2.end_)⟩]⟩), (8, some ⟨0, 0, false, true, false, true, [⟨.imm, 0, 0, .sc (.int .i64 x52.2.ready)⟩, ⟨.imm, 0, 0, .sc (.int .i64 x52.2.free.e0)⟩, ⟨.imm, 0, 0, .sc (.int .i64 x52.2.free.e1)⟩, ⟨.imm, 0, 0, .sc (.int .i64 x52.2.free.e2)⟩, ⟨.imm, 0, 0, .sc (.int .i64 x52.2.free.e3)⟩, ⟨.imm, 0, 0, .sc (.int .i64 x52.2.end_)⟩]⟩)]) (by kernel_rfl) (mk [(0, .v false [.mp 0 0 0]), (1, .v false [.own 1 0 0]), (5, .v false [.mp 5 0 0]), (33, iv (s_0.list.length : Int)), (34, iv t_34_l5), (85, bv x85.1)] [(0, some ⟨0, 0, true, true, false, true, [⟨.imm, 0, 1, .row 4 (List.map e_S_Bond x85.2.list)⟩, ⟨.imm, 0, 0, .sc (.int .i64 x85.2.presses)⟩, ⟨.imm, 0, 0, .sc (.int .i64 x85.2.left)⟩, ⟨.imm, 0, 0, .sc (.bool x85.2.found)⟩, ⟨.sh, 0, 0, .row 1 (List.map eI x85.2.best)⟩, ⟨.imm, 0, 0, .sc (.int .i64 x85.2.least)⟩]⟩), (1, some ⟨0, 0, false, false, false, false, [⟨.sh, 0, 0, .row 1 (List.map eI order_1)⟩]⟩), (5, some ⟨0, 0, false, true, false, true, [⟨.imm, 0, 0, .sc (.int .i64 g_2.ready)⟩, ⟨.imm, 0, 0, .sc (.int .i64 g_2.free.e0)⟩, ⟨.imm, 0, 0, .sc (.int .i64 g_2.free.e1)⟩, ⟨.imm, 0, 0, .sc (.int .i64 g_2.free.e2)⟩, ⟨.imm, 0, 0, .sc (.int .i64 g_2.free.e3)⟩, ⟨.imm, 0, 0, .sc (.int .i64 g_2.end_)⟩]⟩)]) (sT rfl (dN z138 rfl (oMv rfl rfl)) <| sT rfl (dN z138 rfl (oMv rfl rfl)) <| sT rfl (dN z138 rfl (oMv rfl rfl)) <| sK (O := [8]) rfl rfl rfl (dN z138 rfl (oLd (cs := [.im 0 _, .im 0 _, .im 0 _, .im 0 _, .im 0 _, .im 0 _]) rfl tF218 rfl rfl)) <| sF (dN z138 rfl (oCr (xs := [.v false [.own 1 0 0]]) (vs := [(false, [.own 80 0 0])]) (v := .v false [.own 80 0 0]) (c := ⟨.sh, 0, _⟩) (cs := []) (FL_cloneN (en := eI) (L := order_1) rfl hx80 (fun _ => rfl)) (.inl rfl) rfl kF187_27 rfl (ppC rfl pp0) rfl rfl pb0 rfl rfl rfl)) (kY ⟨rfl, trivial⟩ trivial) (sS (dN z138 rfl (oBS (es := List.map eI ([t_34_l5] : List Int)) rfl sF27 rfl (ptC rfl (fxI fx0) rfl pt0) (flat0 rfl fun _ => rfl))) (kY ⟨rfl, trivial⟩ trivial) (sS (dN z138 rfl (oApO (en := eI) (M := ([t_34_l5] : List Int)) rfl hx83 rfl sF27 rfl rfl uF27 (.inl ⟨_, rfl⟩) rfl rfl rfl rfl (el_own rfl rfl) (flat0 rfl fun _ => rfl))) (kY ⟨rfl, trivial⟩ trivial) (sS (dN z138 rfl (oCa (xs := [.v false [.mp 0 0 0], .v false [.own 83 0 0], .v true [.im 0 _, .im 0 _, .im 0 _, .im 0 _, .im 0 _, .im 0 _]]) (vs := [(false, [.im 0 _])]) (v := .v false [.im 0 _]) (ih hx85) (.inl rfl) rfl kF138_212_27_218 rfl (ppPx (ob' := ⟨0, 0, true, true, false, true, [⟨.imm, 0, 1, .row 4 (List.map e_S_Bond s_o0_0_l5)⟩, ⟨.imm, 0, 0, .sc (.int .i64 s_o0_1_l5)⟩, ⟨.imm, 0, 0, .sc (.int .i64 (w64 (s_o0_2_l5 - 1)))⟩, ⟨.imm, 0, 0, .sc (.bool s_o0_3_l5)⟩, ⟨.sh, 0, 0, .row 1 (List.map eI s_o0_4_l5)⟩, ⟨.imm, 0, 0, .sc (.int .i64 s_o0_5_l5)⟩]⟩) rfl rfl rfl (by kernel_rfl) (ppM (take_own rfl rfl) (ppC rfl pp0))) rfl rfl (pbPx (ob' := ⟨0, 1, true, true, false, true, [⟨.imm, 1, 1, .row 4 (List.map e_S_Bond x85.2.list)⟩, ⟨.imm, 1, 0, .sc (.int .i64 x85.2.presses)⟩, ⟨.imm, 1, 0, .sc (.int .i64 x85.2.left)⟩, ⟨.imm, 1, 0, .sc (.bool x85.2.found)⟩, ⟨.sh, 1, 0, .row 1 (List.map eI x85.2.best)⟩, ⟨.imm, 1, 0, .sc (.int .i64 x85.2.least)⟩]⟩) rfl rfl (by kernel_rfl) pb0) rfl rfl rfl)) (kN rfl trivial) (sD (by kernel_rfl))))) (sS (dN z138 rfl (oBS (es := List.map eI ([t_34_l5] : List Int)) rfl sF27 rfl (ptC rfl (fxI fx0) rfl pt0) (flat0 rfl fun _ => rfl))) (kY ⟨rfl, trivial⟩ trivial) (sS (dN z138 rfl (oCr (xs := [.v false [.own 1 0 0]]) (vs := [(false, [.own 80 0 0])]) (v := .v false [.own 80 0 0]) (c := ⟨.sh, 0, _⟩) (cs := []) (FL_cloneN (en := eI) (L := order_1) rfl hx80 (fun _ => rfl)) (.inl rfl) rfl kF187_27 rfl (ppC rfl pp0) rfl rfl pb0 rfl rfl rfl)) (kY ⟨rfl, trivial⟩ trivial) (sS (dN z138 rfl (oApO (en := eI) (M := ([t_34_l5] : List Int)) rfl hx83 rfl sF27 rfl rfl uF27 (.inl ⟨_, rfl⟩) rfl rfl rfl rfl (el_own rfl rfl) (flat0 rfl fun _ => rfl))) (kY ⟨rfl, trivial⟩ trivial) (sS (dN z138 rfl (oCa (xs := [.v false [.mp 0 0 0], .v false [.own 83 0 0], .v true [.im 0 _, .im 0 _, .im 0 _, .im 0 _, .im 0 _, .im 0 _]]) (vs := [(false, [.im 0 _])]) (v := .v false [.im 0 _]) (ih hx85) (.inl rfl) rfl kF138_212_27_218 rfl (ppPx (ob' := ⟨0, 0, true, true, false, true, [⟨.imm, 0, 1, .row 4 (List.map e_S_Bond s_o0_0_l5)⟩, ⟨.imm, 0, 0, .sc (.int .i64 s_o0_1_l5)⟩, ⟨.imm, 0, 0, .sc (.int .i64 (w64 (s_o0_2_l5 - 1)))⟩, ⟨.imm, 0, 0, .sc (.bool s_o0_3_l5)⟩, ⟨.sh, 0, 0, .row 1 (List.map eI s_o0_4_l5)⟩, ⟨.imm, 0, 0, .sc (.int .i64 s_o0_5_l5)⟩]⟩) rfl rfl rfl (by kernel_rfl) (ppM (take_own rfl rfl) (ppC rfl pp0))) rfl rfl (pbPx (ob' := ⟨0, 1, true, true, false, true, [⟨.imm, 1, 1, .row 4 (List.map e_S_Bond x85.2.list)⟩, ⟨.imm, 1, 0, .sc (.int .i64 x85.2.presses)⟩, ⟨.imm, 1, 0, .sc (.int .i64 x85.2.left)⟩, ⟨.imm, 1, 0, .sc (.bool x85.2.found)⟩, ⟨.sh, 1, 0, .row 1 (List.map eI x85.2.best)⟩, ⟨.imm, 1, 0, .sc (.int .i64 x85.2.least)⟩]⟩) rfl rfl (by kernel_rfl) pb0) rfl rfl rfl)) (kN rfl trivial) (sD (by kernel_rfl))))))) ?_
                  refine Unw.seq ?_
                  by_cases hc25 : x85.1 = true
                  · rw [if_pos hc25] at h
                    refine Go.condT rfl (Iff.rfl.2 hc25) ?_
                    refine Go.seq ?_
                    refine Go.r0 c138 rfl rfl (sq z138 (oAsI rfl rfl) <| nl) ?_
                    refine Unw.seq ?_
                    refine Go.ret (Unw.ret ?_)
                    cases h
                    exact ⟨rfl, (fin_of rfl rF138 rfl (by kernel_rfl))⟩
                  · rw [if_neg hc25] at h
                    refine Go.condF rfl (byF Iff.rfl hc25) ?_
                    refine Go.skip ?_
                    refine Unw.blk ?_
                    exact K20 _ ⟨x85.2.list, x85.2.presses, x85.2.left, x85.2.found, x85.2.best, x85.2.least, h, (by kernel_rfl)⟩
      · rw [if_neg hc14] at h
        refine Go.condF rfl (byF iDec hc14) ?_
        refine Go.exit ?_
        refine Unw.seqx ?_
        refine Unw.nil ?_
        cases h
        exact ⟨rfl, (by kernel_rfl)⟩
    · rintro ⟨e, st⟩ hp
      rcases o with ⟨s_o0_0_e0_5, s_o0_1_e0_5, s_o0_2_e0_5, s_o0_3_e0_5, s_o0_4_e0_5, s_o0_5_e0_5⟩ | r2
      · dsimp only at h
        obtain ⟨he, hst⟩ := hp
        obtain rfl : e = .exit 0 := he
        refine Unw.blkx ?_
        refine Unw.seq ?_
        refine Go.seq ?_
        refine Go.r1 c138 rfl rfl hst (sq z138 (oAsI rfl rfl) <| nl) ?_
        refine Unw.seq ?_
        refine Go.ret (Unw.ret ?_)
        cases h
        exact Fin_ret (fin_of rfl rF138 rfl (by kernel_rfl))
      · dsimp only at h
        obtain ⟨he, hfin⟩ := hp
        obtain rfl : e = .ret := he
        cases h
        exact Unw.ret (Fin_ret hfin)
theorem L_impl_glueSearch_run {s_0 : S_glueSearch} {order_1 : (List Int)} {g_2 : S_gluing} {r : (Bool × S_glueSearch)} (h : impl_glueSearch_run s_0 order_1 g_2 = some r) : FL Try.prog cfg 138 [.ptr true [(.imm, .row 4 (List.map e_S_Bond s_0.list)), (.imm, .sc (.int .i64 s_0.presses)), (.imm, .sc (.int .i64 s_0.left)), (.imm, .sc (.bool s_0.found)), (.sh, .row 1 (List.map eI s_0.best)), (.imm, .sc (.int .i64 s_0.least))], .mv 1 (List.map eI order_1), .im 2 true [.sc (.int .i64 g_2.ready), .sc (.int .i64 g_2.free.e0), .sc (.int .i64 g_2.free.e1), .sc (.int .i64 g_2.free.e2), .sc (.int .i64 g_2.free.e3), .sc (.int .i64 g_2.end_)]] = some ([(false, [.im 0 (.sc (.bool r.1))])], [.ptr true [(.imm, .row 4 (List.map e_S_Bond r.2.list)), (.imm, .sc (.int .i64 r.2.presses)), (.imm, .sc (.int .i64 r.2.left)), (.imm, .sc (.bool r.2.found)), (.sh, .row 1 (List.map eI r.2.best)), (.imm, .sc (.int .i64 r.2.least))]]) := by
  unfold impl_glueSearch_run at h
  obtain ⟨n, hn⟩ := fixO_iter h
  clear h
  induction n generalizing s_0 order_1 g_2 r with
  | zero => cases hn
  | succ n ihn => exact L_impl_glueSearch_run_F (self := iterO _ n) (fun h => ihn h) hn
theorem L_impl_BestGlueOrder {list_0 : (List S_Bond)} {presses_1 : Int} {budget_2 : Int} {r : ((List Int) × Int × Int)} (h : impl_BestGlueOrder list_0 presses_1 budget_2 = some r) : FL Try.prog cfg 56 [.im 2 false [.row 4 (List.map e_S_Bond list_0)], .im 2 false [.sc (.int .i64 presses_1)], .im 2 false [.sc (.int .i64 budget_2)]] = some ([(false, [.ow 0 1 (List.map eI r.1)]), (false, [.im 0 (.sc (.int .i64 r.2.1))]), (false, [.im 0 (.sc (.int .i64 r.2.2))])], []) := by
  unfold impl_BestGlueOrder at h
  refine FL_goS (A := [(0, .v false [.im 2 (.row 4 (List.map e_S_Bond list_0))]), (1, .v false [.im 2 (.sc (.int .i64 presses_1))]), (2, .v false [.im 2 (.sc (.int .i64 budget_2))])]) (B := [(0, none), (1, none), (2, none)]) (nt := 40) rfl rfl Try.func56 rfl rfl rfl rfl ?_
  refine Go.seq ?_
  refine Go.r0 c56 rfl rfl (sq z56 (oAsN rfl rfl eF27) <| sq z56 (oAsI rfl rfl) <| sq z56 (oAsI rfl rfl) <| nl) ?_
  refine Unw.seq ?_
  refine Go.seq ?_
  obtain ⟨x13, hx13, h⟩ := bs h
  refine Go.r0 c56 rfl rfl (sq z56 (oMv rfl rfl) <| sq z56 (oMv rfl rfl) <| sq z56 (oCa (xs := [.v false [.im 2 _], .v false [.im 2 _]]) (vs := [(false, [.im 0 _])]) (v := .v false [.im 0 _]) (L_impl_pressCode hx13) (.inl rfl) rfl kF137_81_2 rfl (ppC rfl (ppC rfl pp0)) rfl rfl pb0 rfl rfl rfl) <| sq z56 (oAsI rfl rfl) <| nl) ?_
  refine Unw.seq ?_
  refine Go.seq ?_
  refine Go.seq ?_
  obtain ⟨t_20_m2, hm7, h⟩ := bs h
  refine Go.rX c56 rfl rfl rfl (mk [(0, .v false [.im 2 (.row 4 (List.map e_S_Bond list_0))]), (1, iv presses_1), (2, iv budget_2), (9, iv x13), (20, bv t_20_m2)] []) ?_ ?_
  · by_cases hc1 : x13 = 0
    · rw [if_pos hc1] at hm7
      obtain ⟨x18, hx18, hm7⟩ := bs hm7
      cases hm7
      exact ⟨_, sq z56 (oMv rfl rfl) <| sq z56 (oBi rfl rfl rfl rfl) <| sq z56 (oMv rfl rfl) <| sgT z56 rfl rfl (iEq.2 hc1) (oMv rfl rfl) <| sgT z56 rfl rfl (iEq.2 hc1) (oCa (xs := [.v false [.im 2 _], .v false [.im 0 _], .v false [.im 0 _]]) (vs := [(false, [.im 0 _])]) (v := .v false [.im 0 _]) (L_impl_within hx18) (.inl rfl) rfl kF92_2_2_2 rfl (ppC rfl (ppC rfl (ppC rfl pp0))) rfl rfl pb0 rfl rfl rfl) <| sgT z56 rfl rfl (iEq.2 hc1) (oUn rfl rfl rfl) <| sq z56 (oPkT rfl rfl (iEq.2 hc1) rfl) <| nl, (by kernel_rfl)⟩
    · rw [if_neg hc1] at hm7
      cases hm7
      exact ⟨_, sq z56 (oMv rfl rfl) <| sq z56 (oBi rfl rfl rfl rfl) <| sq z56 (oMv rfl rfl) <| sgF rfl rfl (byF iEq hc1) rfl <| sgF rfl rfl (byF iEq hc1) rfl <| sgF rfl rfl (byF iEq hc1) rfl <| sq z56 (oPkF rfl rfl (byF iEq hc1) rfl) <| nl, (by kernel_rfl)⟩
  · refine Unw.seq ?_
    refine Go.join (fun st => ∃ code_9_r4, impl_BestGlueOrder_k4 budget_2 list_0 presses_1 code_9_r4 = some r ∧ st.norm ([0, 1, 2, 9], []) = mk [(0, .v false [.im 2 (.row 4 (List.map e_S_Bond list_0))]), (1, iv presses_1), (2, iv budget_2), (9, iv code_9_r4)] []) ?_ ?_
    · rintro st ⟨code_9_r4, h, hst⟩
      unfold impl_BestGlueOrder_k4 at h
      refine Unw.seq ?_
      refine Go.seq ?_
      refine Go.seq ?_
      refine Go.r1 c56 rfl rfl hst (sq z56 (oMv rfl rfl) <| sq z56 (oBi rfl rfl rfl rfl) <| nl) ?_
      refine Unw.seq ?_
      by_cases hc3 : code_9_r4 ≠ 0
      · rw [if_pos hc3] at h
        refine Go.condT rfl (iNe.2 hc3) ?_
        refine Go.seq ?_
        refine Go.r0 c56 rfl rfl (sq z56 (oMv rfl rfl) <| sq z56 (oAsN rfl rfl eF27) <| sq z56 (oAsI rfl rfl) <| sq z56 (oAsI rfl rfl) <| nl) ?_
        refine Unw.seq ?_
        refine Go.ret (Unw.ret ?_)
        cases h
        exact Fin_ret (fin_of rfl rF56 rfl (by kernel_rfl))
      · rw [if_neg hc3] at h
        refine Go.condF rfl (byF iNe hc3) ?_
        refine Go.skip ?_
        refine Unw.seq ?_
        refine Go.seq ?_
        refine Go.r0 c56 rfl rfl (sq z56 (oMv rfl rfl) <| sq z56 (oMv rfl rfl) <| sq z56 (oMv rfl rfl) <| sq z56 (oBu (cs := [.im 2 _, .im 0 _, .im 0 _, .im 0 _, .nil, .im 0 _]) rfl bF214 rfl) <| sq z56 (oBx rfl tF214 rfl (tkI (tkI (tkI (tkI (tkN (tkI tk0))))))) <| sq z56 (oAsP rfl rfl) <| nl) ?_
        refine Unw.seq ?_
        refine Go.seq ?_
        refine Go.seq ?_
        obtain ⟨x31, hx31, h⟩ := bs h
        refine Go.r1 c56 rfl rfl (st1 := mk [(10, .v false [.mp 28 0 0])] [(28, some ⟨0, 0, false, true, false, true, [⟨.imm, 0, 2, .row 4 (List.map e_S_Bond list_0)⟩, ⟨.imm, 0, 0, .sc (.int .i64 presses_1)⟩, ⟨.imm, 0, 0, .sc (.int .i64 budget_2)⟩, ⟨.imm, 0, 0, .sc (.bool false)⟩, ⟨.sh, 0, 0, .row 1 (List.map eI ([] : List Int))⟩, ⟨.imm, 0, 0, .sc (.int .i64 0)⟩]⟩)]) (by kernel_rfl) (sq z56 (oMv rfl rfl) <| sq z56 (oBu (cs := [.im 0 _, .im 0 _, .im 0 _, .im 0 _, .im 0 _, .im 0 _]) rfl bF218 rfl) <| sq z56 (oCa (xs := [.v false [.mp 28 0 0], .v false [.nil], .v true [.im 0 _, .im 0 _, .im 0 _, .im 0 _, .im 0 _, .im 0 _]]) (vs := [(false, [.im 0 _])]) (v := .v false [.im 0 _]) (L_impl_glueSearch_run hx31) (.inl rfl) rfl kF138_212_27_218 rfl (ppPx (ob' := ⟨0, 0, false, true, false, true, [⟨.imm, 0, 2, .row 4 (List.map e_S_Bond list_0)⟩, ⟨.imm, 0, 0, .sc (.int .i64 presses_1)⟩, ⟨.imm, 0, 0, .sc (.int .i64 budget_2)⟩, ⟨.imm, 0, 0, .sc (.bool false)⟩, ⟨.sh, 0, 0, .row 1 (List.map eI ([] : List Int))⟩, ⟨.imm, 0, 0, .sc (.int .i64 0)⟩]⟩) rfl rfl rfl (by kernel_rfl) (ppM take_nil (ppC rfl pp0))) rfl rfl (pbPx (ob' := ⟨0, 1, false, true, false, true, [⟨.imm, 1, 2, .row 4 (List.map e_S_Bond x31.2.list)⟩, ⟨.imm, 1, 0, .sc (.int .i64 x31.2.presses)⟩, ⟨.imm, 1, 0, .sc (.int .i64 x31.2.left)⟩, ⟨.imm, 1, 0, .sc (.bool x31.2.found)⟩, ⟨.sh, 1, 0, .row 1 (List.map eI x31.2.best)⟩, ⟨.imm, 1, 0, .sc (.int .i64 x31.2.least)⟩]⟩) rfl rfl (by kernel_rfl) pb0) rfl rfl rfl) <| nl) ?_
        refine Unw.seq ?_
        by_cases hc4 : x31.1 = true
        · rw [if_pos hc4] at h
          refine Go.condT rfl (Iff.rfl.2 hc4) ?_
          refine Go.seq ?_
          refine Go.r1 c56 rfl rfl (st1 := mk [] []) (by kernel_rfl) (sq z56 (oAsN rfl rfl eF27) <| sq z56 (oAsI rfl rfl) <| sq z56 (oAsI rfl rfl) <| nl) ?_
          refine Unw.seq ?_
          refine Go.ret (Unw.ret ?_)
          cases h
          exact Fin_ret (fin_of rfl rF56 rfl (by kernel_rfl))
        · rw [if_neg hc4] at h
          refine Go.condF rfl (byF Iff.rfl hc4) ?_
          refine Go.skip ?_
          refine Unw.seq ?_
          refine Go.seq ?_
          refine Go.dr c56 rfl rfl rfl (st1 := mk [(10, .v false [.mp 28 0 0])] [(28, some ⟨0, 0, false, true, false, true, [⟨.imm, 0, 2, .row 4 (List.map e_S_Bond x31.2.list)⟩, ⟨.imm, 0, 0, .sc (.int .i64 x31.2.presses)⟩, ⟨.imm, 0, 0, .sc (.int .i64 x31.2.left)⟩, ⟨.imm, 0, 0, .sc (.bool x31.2.found)⟩, ⟨.sh, 0, 0, .row 1 (List.map eI x31.2.best)⟩, ⟨.imm, 0, 0, .sc (.int .i64 x31.2.least)⟩]⟩)]) (by kernel_rfl) (mk [(6, .v false [.own 6 0 0]), (7, iv x31.2.least), (8, iv 0)] [(6, some ⟨0, 0, false, false, false, false, [⟨.sh, 0, 0, .row 1 (List.map eI x31.2.best)⟩]⟩)]) (sT rfl (dN z56 rfl (oMv rfl rfl)) <| sT rfl (dN z56 rfl (oNl rfl rfl rfl)) <| sT rfl (dN z56 rfl (oFA (r' := .mp 28 0 4) rfl fF214_4 rfl rfl)) <| sT rfl (dN z56 rfl (oLd (cs := [.own 28 0 4]) rfl tF27 rfl rfl)) <| sT rfl (dN z56 rfl (oMv rfl rfl)) <| sF (dN z56 rfl (oNl rfl rfl rfl)) trivial (sF (dN z56 rfl (oFA (r' := .mp 28 0 5) rfl fF214_5 rfl rfl)) trivial (sF (dN z56 rfl (oLd (cs := [.im 0 _]) rfl tF2 rfl rfl)) trivial (sS (dN z56 rfl (oAsO rfl rfl rfl rfl rfl)) trivial (sS (dN z56 rfl (oAsI rfl rfl)) trivial (sS (dN z56 rfl (oAsI rfl rfl)) trivial (sD (by kernel_rfl))))) (sS (dN z56 rfl (oAsO rfl rfl rfl rfl rfl)) trivial (sT rfl (dN z56 rfl (oLd (cs := [.im 0 _]) rfl tF2 rfl rfl)) <| sS (dN z56 rfl (oAsI rfl rfl)) trivial (sS (dN z56 rfl (oAsI rfl rfl)) trivial (sD (by kernel_rfl)))))) (sS (dN z56 rfl (oAsO rfl rfl rfl rfl rfl)) trivial (sT rfl (dN z56 rfl (oFA (r' := .mp 28 0 5) rfl fF214_5 rfl rfl)) <| sT rfl (dN z56 rfl (oLd (cs := [.im 0 _]) rfl tF2 rfl rfl)) <| sS (dN z56 rfl (oAsI rfl rfl)) trivial (sS (dN z56 rfl (oAsI rfl rfl)) trivial (sD (by kernel_rfl)))))) (sS (dN z56 rfl (oAsO rfl rfl rfl rfl rfl)) trivial (sT rfl (dN z56 rfl (oNl rfl rfl rfl)) <| sT rfl (dN z56 rfl (oFA (r' := .mp 28 0 5) rfl fF214_5 rfl rfl)) <| sT rfl (dN z56 rfl (oLd (cs := [.im 0 _]) rfl tF2 rfl rfl)) <| sS (dN z56 rfl (oAsI rfl rfl)) trivial (sS (dN z56 rfl (oAsI rfl rfl)) trivial (sD (by kernel_rfl)))))) ?_
          refine Unw.seq ?_
          refine Go.ret (Unw.ret ?_)
          cases h
          exact Fin_ret (fin_of rfl rF56 rfl (by kernel_rfl))
    · intro K5
      by_cases hc6 : t_20_m2 = true
      · rw [if_pos hc6] at h
        refine Go.condT rfl (Iff.rfl.2 hc6) ?_
        refine Go.r0 c56 rfl rfl (sq z56 (oAsI rfl rfl) <| nl) ?_
        exact K5 _ ⟨2, h, (by kernel_rfl)⟩
      · rw [if_neg hc6] at h
        refine Go.condF rfl (byF Iff.rfl hc6) ?_
        refine Go.skip ?_
        exact K5 _ ⟨x13, h, (by kernel_rfl)⟩
theorem L_impl_LongestFirst_c1 {i_0 : Int} {k_1 : Int} {cap0_0 : (List S_Bond)} {r : Int} (h : impl_LongestFirst_c1 i_0 k_1 cap0_0 = some r) : FL Try.prog cfg 178 [.im 2 false [.sc (.int .i64 i_0)], .im 2 false [.sc (.int .i64 k_1)], .im 2 false [.cp [.row 4 (List.map e_S_Bond cap0_0)] 0]] = some ([(false, [.im 0 (.sc (.int .i64 r))])], []) := by
  unfold impl_LongestFirst_c1 at h
  refine FL_goS (A := [(0, .v false [.im 2 (.sc (.int .i64 i_0))]), (1, .v false [.im 2 (.sc (.int .i64 k_1))]), (2, .v false [.im 2 (.cp [.row 4 (List.map e_S_Bond cap0_0)] 0)])]) (B := [(0, none), (1, none), (2, none)]) (nt := 17) rfl rfl Try.func178 rfl rfl rfl rfl ?_
  refine Go.seq ?_
  refine Go.r0 c178 rfl rfl (sq z178 (oAsI rfl rfl) <| nl) ?_
  refine Unw.seq ?_
  refine Go.seq ?_
  obtain ⟨x8, hx8, h⟩ := bs h
  obtain ⟨x13, hx13, h⟩ := bs h
  refine Go.dr c178 rfl rfl rfl rfl (mk [(5, iv (w64 (x8.Press - x13.Press)))] []) (sT rfl (dN z178 rfl (oLd (cs := [.im 2 _]) rfl tF81 rfl rfl)) <| sT rfl (dN z178 rfl (oMv rfl rfl)) <| sT rfl (dN z178 rfl (oIAI rfl hx8 sF81 rfl rfl)) <| sT rfl (dN z178 rfl (oFA (r' := .im 2 _) rfl fF209_3 rfl rfl)) <| sT rfl (dN z178 rfl (oLd (cs := [.im 2 _]) rfl tF2 rfl rfl)) <| sT rfl (dN z178 rfl (oLd (cs := [.im 2 _]) rfl tF81 rfl rfl)) <| sT rfl (dN z178 rfl (oMv rfl rfl)) <| sT rfl (dN z178 rfl (oIAI rfl hx13 sF81 rfl rfl)) <| sT rfl (dN z178 rfl (oFA (r' := .im 2 _) rfl fF209_3 rfl rfl)) <| sT rfl (dN z178 rfl (oLd (cs := [.im 2 _]) rfl tF2 rfl rfl)) <| sT rfl (dN z178 rfl (oBi rfl rfl rfl rfl)) <| sS (dN z178 rfl (oAsI rfl rfl)) trivial (sD (by kernel_rfl))) ?_
  refine Unw.seq ?_
  refine Go.ret (Unw.ret ?_)
  cases h
  exact Fin_ret (fin_of rfl rF178 rfl (by kernel_rfl))
theorem L_slices_insertionSortCmpFunc_int64_178 {data_0 : (List Int)} {a_1 : Int} {b_2 : Int} {fc3_0_0 : (List S_Bond)} {r : (List Int)} (h : slices_insertionSortCmpFunc_int64 data_0 a_1 b_2 (fun b0 b1 => impl_LongestFirst_c1 b0 b1 fc3_0_0) = some r) : FL Try.prog cfg 274 [.ow 1 (List.map eI data_0), .im 2 false [.sc (.int .i64 a_1)], .im 2 false [.sc (.int .i64 b_2)], .im 2 false [.clo 178 [.cp [.row 4 (List.map e_S_Bond fc3_0_0)] 0]]] = some ([], [.ow 1 (List.map eI r)]) := by
  unfold slices_insertionSortCmpFunc_int64 at h
  refine FL_goS (A := [(0, .v false [.own 0 0 0]), (1, .v false [.im 2 (.sc (.int .i64 a_1))]), (2, .v false [.im 2 (.sc (.int .i64 b_2))]), (3, .v false [.im 2 (.clo 178 [.cp [.row 4 (List.map e_S_Bond fc3_0_0)] 0])])]) (B := [(0, some ⟨0, 0, true, false, false, false, [⟨.sh, 0, 0, .row 1 (List.map eI data_0)⟩]⟩), (1, none), (2, none), (3, none)]) (nt := 53) rfl rfl Try.func274 rfl rfl rfl rfl ?_
  refine Go.seq ?_
  refine Go.r0 c274 rfl rfl (sq z274 (oMv rfl rfl) <| sq z274 (oBi rfl rfl rfl rfl) <| sq z274 (oAsI rfl rfl) <| nl) ?_
  refine Unw.seq ?_
  refine Go.block ?_
  obtain ⟨o, hl, h⟩ := bs h
  refine Go.lp c274 rfl _ (fun (s : (Int × (List Int))) => match s with | (i_8_l1, data_o0_l1) => mk [(0, .v false [.own 0 0 0]), (1, iv a_1), (2, iv b_2), (3, .v false [.im 2 (.clo 178 [.cp [.row 4 (List.map e_S_Bond fc3_0_0)] 0])]), (8, iv i_8_l1)] [(0, some ⟨0, 0, true, false, false, false, [⟨.sh, 0, 0, .row 1 (List.map eI data_o0_l1)⟩]⟩)]) (fun (r2 : (List Int)) (p : Ex × St) => p.1 = .exit 0 ∧ fin Try.prog cfg 274 Try.f274 [.ow 1 (List.map eI data_0), .im 2 false [.sc (.int .i64 a_1)], .im 2 false [.sc (.int .i64 b_2)], .im 2 false [.clo 178 [.cp [.row 4 (List.map e_S_Bond fc3_0_0)] 0]]] p.2 = some ([], [.ow 1 (List.map eI r2)])) hl (by kernel_rfl) ?_ ?_ ?_
  · intro o p hp e
    exact nomatch (hp.1.symm.trans e)
  · rintro ⟨i_8_l1, data_o0_l1⟩ o h
    unfold slices_insertionSortCmpFunc_int64_l1 at h
    dsimp only at h
    refine Go.seq ?_
    refine Go.seq ?_
    refine Go.r0 c274 rfl rfl (sq z274 (oMv rfl rfl) <| sq z274 (oMv rfl rfl) <| sq z274 (oBi rfl rfl rfl rfl) <| nl) ?_
    refine Unw.seq ?_
    by_cases hc15 : i_8_l1 < b_2
    · rw [if_pos hc15] at h
      refine Go.condT rfl (iDec.2 hc15) ?_
      refine Go.skip ?_
      refine Unw.seq ?_
      refine Go.seq ?_
      refine Go.block ?_
      refine Go.seq ?_
      refine Go.r0 c274 rfl rfl (sq z274 (oMv rfl rfl) <| sq z274 (oAsI rfl rfl) <| nl) ?_
      refine Unw.seq ?_
      refine Go.block ?_
      obtain ⟨o, hl, h⟩ := bs h
      refine Go.lp c274 rfl _ (fun (s : (Int × (List Int))) => match s with | (j_9_l4, data_o0_l4) => mk [(0, .v false [.own 0 0 0]), (1, iv a_1), (2, iv b_2), (3, .v false [.im 2 (.clo 178 [.cp [.row 4 (List.map e_S_Bond fc3_0_0)] 0])]), (8, iv i_8_l1), (9, iv j_9_l4)] [(0, some ⟨0, 0, true, false, false, false, [⟨.sh, 0, 0, .row 1 (List.map eI data_o0_l4)⟩]⟩)]) (fun (data_o0_e2_4 : (List Int)) (p : Ex × St) => p.1 = .exit 2 ∧ p.2.norm ([0, 1, 2, 3, 8], [0]) = mk [(0, .v false [.own 0 0 0]), (1, iv a_1), (2, iv b_2), (3, .v false [.im 2 (.clo 178 [.cp [.row 4 (List.map e_S_Bond fc3_0_0)] 0])]), (8, iv i_8_l1)] [(0, some ⟨0, 0, true, false, false, false, [⟨.sh, 0, 0, .row 1 (List.map eI data_o0_e2_4)⟩]⟩)]) hl (by kernel_rfl) ?_ ?_ ?_
      · intro o p hp e
        exact nomatch (hp.1.symm.trans e)
      · rintro ⟨j_9_l4, data_o0_l4⟩ o h
        unfold slices_insertionSortCmpFunc_int64_l4 at h
        dsimp only at h
        refine Go.seq ?_
        refine Go.seq ?_
        obtain ⟨t_34_m4, hm24, h⟩ := bs h
        refine Go.dr c274 rfl rfl rfl rfl (mk [(0, .v false [.own 0 0 0]), (1, iv a_1), (2, iv b_2), (3, .v false [.im 2 (.clo 178 [.cp [.row 4 (List.map e_S_Bond fc3_0_0)] 0])]), (8, iv i_8_l1), (9, iv j_9_l4), (34, bv t_34_m4)] [(0, some ⟨0, 0, true, false, false, false, [⟨.sh, 0, 0, .row 1 (List.map eI data_o0_l4)⟩]⟩)]) ?_ ?_
        · by_cases hc22 : j_9_l4 > a_1
          · rw [if_pos hc22] at hm24
            obtain ⟨x25, hx25, hm24⟩ := bs hm24
            obtain ⟨x30, hx30, hm24⟩ := bs hm24
            obtain ⟨x32, hx32, hm24⟩ := bs hm24
            cases hm24
            exact sT rfl (dN z274 rfl (oMv rfl rfl)) <| sT rfl (dN z274 rfl (oMv rfl rfl)) <| sT rfl (dN z274 rfl (oBi rfl rfl rfl rfl)) <| sT rfl (dN z274 rfl (oMv rfl rfl)) <| sT rfl (dT z274 rfl rfl rfl (iDec.2 hc22) (oMv rfl rfl)) <| sT rfl (dT z274 rfl rfl rfl (iDec.2 hc22) (oMv rfl rfl)) <| sT rfl (dT z274 rfl rfl rfl (iDec.2 hc22) (oMv rfl rfl)) <| sT rfl (dT z274 rfl rfl rfl (iDec.2 hc22) (oIAO rfl hx25 sF27 rfl rfl rfl rfl)) <| sT rfl (dT z274 rfl rfl rfl (iDec.2 hc22) (oLdE (cs := [.im 0 _]) rfl tF2 rfl rfl rfl (fun e => nomatch e) (rd_get hx25) rfl rfl)) <| sT rfl (dT z274 rfl rfl rfl (iDec.2 hc22) (oMv rfl rfl)) <| sT rfl (dT z274 rfl rfl rfl (iDec.2 hc22) (oMv rfl rfl)) <| sT rfl (dT z274 rfl rfl rfl (iDec.2 hc22) (oBi rfl rfl rfl rfl)) <| sT rfl (dT z274 rfl rfl rfl (iDec.2 hc22) (oIAO rfl hx30 sF27 rfl rfl rfl rfl)) <| sT rfl (dT z274 rfl rfl rfl (iDec.2 hc22) (oLdE (cs := [.im 0 _]) rfl tF2 rfl rfl rfl (fun e => nomatch e) (rd_get hx30) rfl rfl)) <| sS (dT z274 rfl rfl rfl (iDec.2 hc22) (oCa (xs := [.v false [.im 0 _], .v false [.im 0 _], .v false [.im 2 _]]) (vs := [(false, [.im 0 _])]) (v := .v false [.im 0 _]) (L_impl_LongestFirst_c1 hx32) (.inr ⟨_, _, rfl, rfl⟩) rfl kF178_2_2_0 rfl (ppC rfl (ppC rfl (ppC rfl pp0))) rfl rfl pb0 rfl rfl rfl)) trivial (sT rfl (dT z274 rfl rfl rfl (iDec.2 hc22) (oBi rfl rfl rfl rfl)) <| sT rfl (dN z274 rfl (oPkT rfl rfl (iDec.2 hc22) rfl)) <| sD (by kernel_rfl))
          · rw [if_neg hc22] at hm24
            cases hm24
            exact sT rfl (dN z274 rfl (oMv rfl rfl)) <| sT rfl (dN z274 rfl (oMv rfl rfl)) <| sT rfl (dN z274 rfl (oBi rfl rfl rfl rfl)) <| sT rfl (dN z274 rfl (oMv rfl rfl)) <| sT rfl (dF rfl rfl rfl (byF iDec hc22) rfl) <| sT rfl (dF rfl rfl rfl (byF iDec hc22) rfl) <| sT rfl (dF rfl rfl rfl (byF iDec hc22) rfl) <| sT rfl (dF rfl rfl rfl (byF iDec hc22) rfl) <| sT rfl (dF rfl rfl rfl (byF iDec hc22) rfl) <| sT rfl (dF rfl rfl rfl (byF iDec hc22) rfl) <| sT rfl (dF rfl rfl rfl (byF iDec hc22) rfl) <| sT rfl (dF rfl rfl rfl (byF iDec hc22) rfl) <| sT rfl (dF rfl rfl rfl (byF iDec hc22) rfl) <| sT rfl (dF rfl rfl rfl (byF iDec hc22) rfl) <| sS (dF rfl rfl rfl (byF iDec hc22) rfl) trivial (sT rfl (dF rfl rfl rfl (byF iDec hc22) rfl) <| sT rfl (dN z274 rfl (oPkF rfl rfl (byF iDec hc22) rfl)) <| sD (by kernel_rfl))
        · refine Unw.seq ?_
          by_cases hc23 : t_34_m4 = true
          · rw [if_pos hc23] at h
            refine Go.condT rfl (Iff.rfl.2 hc23) ?_
            refine Go.skip ?_
            refine Unw.seq ?_
            refine Go.seq ?_
            refine Go.block ?_
            obtain ⟨x45, hx45, h⟩ := bs h
            obtain ⟨x49, hx49, h⟩ := bs h
            obtain ⟨x51, hx51, h⟩ := bs h
            obtain ⟨x52, hx52, h⟩ := bs h
            refine Go.dr c274 rfl rfl rfl rfl (mk [(0, .v false [.own 0 0 0]), (1, iv a_1), (2, iv b_2), (3, .v false [.im 2 (.clo 178 [.cp [.row 4 (List.map e_S_Bond fc3_0_0)] 0])]), (8, iv i_8_l1), (9, iv j_9_l4)] [(0, some ⟨0, 0, true, false, false, false, [⟨.sh, 0, 0, .row 1 (List.map eI ((data_o0_l4.set j_9_l4.toNat x45).set ((w64 (j_9_l4 - 1)).toNat) x49))⟩]⟩)]) (sT rfl (dN z274 rfl (oMv rfl rfl)) <| sT rfl (dN z274 rfl (oMv rfl rfl)) <| sT rfl (dN z274 rfl (oMv rfl rfl)) <| sT rfl (dN z274 rfl (oMv rfl rfl)) <| sT rfl (dN z274 rfl (oBi rfl rfl rfl rfl)) <| sT rfl (dN z274 rfl (oMv rfl rfl)) <| sT rfl (dN z274 rfl (oMv rfl rfl)) <| sT rfl (dN z274 rfl (oBi rfl rfl rfl rfl)) <| sT rfl (dN z274 rfl (oIAO rfl hx45 sF27 rfl rfl rfl rfl)) <| sT rfl (dN z274 rfl (oLdE (cs := [.im 0 _]) rfl tF2 rfl rfl rfl (fun e => nomatch e) (rd_get hx45) rfl rfl)) <| sT rfl (dN z274 rfl (oMv rfl rfl)) <| sT rfl (dN z274 rfl (oMv rfl rfl)) <| sT rfl (dN z274 rfl (oIAO rfl hx49 sF27 rfl rfl rfl rfl)) <| sT rfl (dN z274 rfl (oLdE (cs := [.im 0 _]) rfl tF2 rfl rfl rfl (fun e => nomatch e) (rd_get hx49) rfl rfl)) <| sT rfl (dN z274 rfl (oIAO rfl hx51 sF27 rfl rfl rfl rfl)) <| sS (dN z274 rfl (oStE (v' := x45) tF2 rfl rfl rfl (fxI fx0) rfl rfl (rd_get hx51) rfl)) trivial (sT rfl (dN z274 rfl (oIAO rfl hx52 sF27 rfl rfl rfl rfl)) <| sS (dN z274 rfl (oStE (v' := x49) tF2 rfl rfl rfl (fxI fx0) rfl rfl (rd_get hx52) rfl)) trivial (sD (by kernel_rfl)))) ?_
            refine Unw.blk ?_
            refine Unw.seq ?_
            refine Go.r0 c274 rfl rfl (sq z274 (oMv rfl rfl) <| sq z274 (oBi rfl rfl rfl rfl) <| sq z274 (oAsI rfl rfl) <| nl) ?_
            refine Unw.nil ?_
            cases h
            exact ⟨rfl, (by kernel_rfl)⟩
          · rw [if_neg hc23] at h
            refine Go.condF rfl (byF Iff.rfl hc23) ?_
            refine Go.exit ?_
            refine Unw.seqx ?_
            refine Unw.nil ?_
            cases h
            exact ⟨rfl, (by kernel_rfl)⟩
      · rintro ⟨e, st⟩ hp
        obtain ⟨data_o0_e2_4, rfl⟩ : ∃ y, y = o := ⟨o, rfl⟩
        obtain ⟨he, hst⟩ := hp
        obtain rfl : e = .exit 2 := he
        refine Unw.blkx ?_
        refine Unw.blk ?_
        refine Unw.seq ?_
        refine Go.r1 c274 rfl rfl hst (sq z274 (oMv rfl rfl) <| sq z274 (oBi rfl rfl rfl rfl) <| sq z274 (oAsI rfl rfl) <| nl) ?_
        refine Unw.nil ?_
        cases h
        exact ⟨rfl, (by kernel_rfl)⟩
    · rw [if_neg hc15] at h
      refine Go.condF rfl (byF iDec hc15) ?_
      refine Go.exit ?_
      refine Unw.seqx ?_
      refine Unw.nil ?_
      cases h
      exact ⟨rfl, (fin_of rfl rF274 rfl (by kernel_rfl))⟩
  · rintro ⟨e, st⟩ hp
    obtain ⟨r2, rfl⟩ : ∃ y, y = o := ⟨o, rfl⟩
    obtain ⟨he, hfin⟩ := hp
    obtain rfl : e = .exit 0 := he
    cases h
    refine Unw.blkx ?_
    exact Unw.nil (Fin_end hfin)
theorem L_slices_swapRangeCmpFunc_int64_178 {data_0 : (List Int)} {a_1 : Int} {b_2 : Int} {n_3 : Int} {fc4_0_0 : (List S_Bond)} {r : (List Int)} (h : slices_swapRangeCmpFunc_int64 data_0 a_1 b_2 n_3 (fun b0 b1 => impl_LongestFirst_c1 b0 b1 fc4_0_0) = some r) : FL Try.prog cfg 287 [.ow 1 (List.map eI data_0), .im 2 false [.sc (.int .i64 a_1)], .im 2 false [.sc (.int .i64 b_2)], .im 2 false [.sc (.int .i64 n_3)], .im 2 false [.clo 178 [.cp [.row 4 (List.map e_S_Bond fc4_0_0)] 0]]] = some ([], [.ow 1 (List.map eI r)]) := by
  unfold slices_swapRangeCmpFunc_int64 at h
  refine FL_goS (A := [(0, .v false [.own 0 0 0]), (1, .v false [.im 2 (.sc (.int .i64 a_1))]), (2, .v false [.im 2 (.sc (.int .i64 b_2))]), (3, .v false [.im 2 (.sc (.int .i64 n_3))]), (4, .v false [.im 2 (.clo 178 [.cp [.row 4 (List.map e_S_Bond fc4_0_0)] 0])])]) (B := [(0, some ⟨0, 0, true, false, false, false, [⟨.sh, 0, 0, .row 1 (List.map eI data_0)⟩]⟩), (1, none), (2, none), (3, none), (4, none)]) (nt := 38) rfl rfl Try.func287 rfl rfl rfl rfl ?_
  refine Go.seq ?_
  refine Go.r0 c287 rfl rfl (sq z287 (oAsI rfl rfl) <| nl) ?_
  refine Unw.seq ?_
  refine Go.block ?_
  obtain ⟨o, hl, h⟩ := bs h
  refine Go.lp c287 rfl _ (fun (s : (Int × (List Int))) => match s with | (i_10_l1, data_o0_l1) => mk [(0, .v false [.own 0 0 0]), (1, iv a_1), (2, iv b_2), (3, iv n_3), (10, iv i_10_l1)] [(0, some ⟨0, 0, true, false, false, false, [⟨.sh, 0, 0, .row 1 (List.map eI data_o0_l1)⟩]⟩)]) (fun (r2 : (List Int)) (p : Ex × St) => p.1 = .exit 0 ∧ fin Try.prog cfg 287 Try.f287 [.ow 1 (List.map eI data_0), .im 2 false [.sc (.int .i64 a_1)], .im 2 false [.sc (.int .i64 b_2)], .im 2 false [.sc (.int .i64 n_3)], .im 2 false [.clo 178 [.cp [.row 4 (List.map e_S_Bond fc4_0_0)] 0]]] p.2 = some ([], [.ow 1 (List.map eI r2)])) hl (by kernel_rfl) ?_ ?_ ?_
  · intro o p hp e
    exact nomatch (hp.1.symm.trans e)
  · rintro ⟨i_10_l1, data_o0_l1⟩ o h
    unfold slices_swapRangeCmpFunc_int64_l1 at h
    dsimp only at h
    refine Go.seq ?_
    refine Go.seq ?_
    refine Go.r0 c287 rfl rfl (sq z287 (oMv rfl rfl) <| sq z287 (oMv rfl rfl) <| sq z287 (oBi rfl rfl rfl rfl) <| nl) ?_
    refine Unw.seq ?_
    by_cases hc3 : i_10_l1 < n_3
    · rw [if_pos hc3] at h
      refine Go.condT rfl (iDec.2 hc3) ?_
      refine Go.skip ?_
      refine Unw.seq ?_
      refine Go.seq ?_
      refine Go.block ?_
      obtain ⟨x28, hx28, h⟩ := bs h
      obtain ⟨x34, hx34, h⟩ := bs h
      obtain ⟨x36, hx36, h⟩ := bs h
      obtain ⟨x37, hx37, h⟩ := bs h
      refine Go.dr c287 rfl rfl rfl rfl (mk [(0, .v false [.own 0 0 0]), (1, iv a_1), (2, iv b_2), (3, iv n_3), (10, iv i_10_l1)] [(0, some ⟨0, 0, true, false, false, false, [⟨.sh, 0, 0, .row 1 (List.map eI ((data_o0_l1.set ((w64 (a_1 + i_10_l1)).toNat) x28).set ((w64 (b_2 + i_10_l1)).toNat) x34))⟩]⟩)]) (sT rfl (dN z287 rfl (oMv rfl rfl)) <| sT rfl (dN z287 rfl (oMv rfl rfl)) <| sT rfl (dN z287 rfl (oMv rfl rfl)) <| sT rfl (dN z287 rfl (oBi rfl rfl rfl rfl)) <| sT rfl (dN z287 rfl (oMv rfl rfl)) <| sT rfl (dN z287 rfl (oMv rfl rfl)) <| sT rfl (dN z287 rfl (oMv rfl rfl)) <| sT rfl (dN z287 rfl (oBi rfl rfl rfl rfl)) <| sT rfl (dN z287 rfl (oMv rfl rfl)) <| sT rfl (dN z287 rfl (oMv rfl rfl)) <| sT rfl (dN z287 rfl (oMv rfl rfl)) <| sT rfl (dN z287 rfl (oBi rfl rfl rfl rfl)) <| sT rfl (dN z287 rfl (oIAO rfl hx28 sF27 rfl rfl rfl rfl)) <| sT rfl (dN z287 rfl (oLdE (cs := [.im 0 _]) rfl tF2 rfl rfl rfl (fun e => nomatch e) (rd_get hx28) rfl rfl)) <| sT rfl (dN z287 rfl (oMv rfl rfl)) <| sT rfl (dN z287 rfl (oMv rfl rfl)) <| sT rfl (dN z287 rfl (oMv rfl rfl)) <| sT rfl (dN z287 rfl (oBi rfl rfl rfl rfl)) <| sT rfl (dN z287 rfl (oIAO rfl hx34 sF27 rfl rfl rfl rfl)) <| sT rfl (dN z287 rfl (oLdE (cs := [.im 0 _]) rfl tF2 rfl rfl rfl (fun e => nomatch e) (rd_get hx34) rfl rfl)) <| sT rfl (dN z287 rfl (oIAO rfl hx36 sF27 rfl rfl rfl rfl)) <| sS (dN z287 rfl (oStE (v' := x28) tF2 rfl rfl rfl (fxI fx0) rfl rfl (rd_get hx36) rfl)) trivial (sT rfl (dN z287 rfl (oIAO rfl hx37 sF27 rfl rfl rfl rfl)) <| sS (dN z287 rfl (oStE (v' := x34) tF2 rfl rfl rfl (fxI fx0) rfl rfl (rd_get hx37) rfl)) trivial (sD (by kernel_rfl)))) ?_
      refine Unw.blk ?_
      refine Unw.seq ?_
      refine Go.r0 c287 rfl rfl (sq z287 (oMv rfl rfl) <| sq z287 (oBi rfl rfl rfl rfl) <| sq z287 (oAsI rfl rfl) <| nl) ?_
      refine Unw.nil ?_
      cases h
      exact ⟨rfl, (by kernel_rfl)⟩
    · rw [if_neg hc3] at h
      refine Go.condF rfl (byF iDec hc3) ?_
      refine Go.exit ?_
      refine Unw.seqx ?_
      refine Unw.nil ?_
      cases h
      exact ⟨rfl, (fin_of rfl rF287 rfl (by kernel_rfl))⟩
  · rintro ⟨e, st⟩ hp
    obtain ⟨r2, rfl⟩ : ∃ y, y = o := ⟨o, rfl⟩
    obtain ⟨he, hfin⟩ := hp
    obtain rfl : e = .exit 0 := he
    cases h
    refine Unw.blkx ?_
    exact Unw.nil (Fin_end hfin)
end
end Go.Proofs.Ytigjhjlkdamncaa
