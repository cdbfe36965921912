/- The machine answers, at each function of the program that is reached, what its plain function answers. Conditions: none. -/
import Derived.Test.YtigjhjlkdamncaaProg
import Derived.KernelRfl
import Derived.Test.YtigjhjlkdamncaaSimRf
import Derived.Test.YtigjhjlkdamncaaTbnT
namespace Go.Proofs.Ytigjhjlkdamncaa
open Go Go.Sim Go.Pw Go.Proofs
set_option linter.unusedVariables false
set_option linter.unusedSimpArgs false
set_option maxRecDepth 100000
set_option maxHeartbeats 4000000
noncomputable section

def e_S_Blade (x : S_Blade) : AV := .agg [.sc (.string x.Name), .sc (.int .i64 x.Life), .sc (.int .i64 x.Price), .sc (.int .i64 x.Speed)]
def e_S_Cutting (x : S_Cutting) : AV := .agg [.sc (.string x.Name), .sc (.int .i64 x.Length), .sc (.int .i64 x.Hardness)]
def e_S_l00Src (x : S_l00Src) : AV := .agg [.row 1 (List.map (eK .u8) x.code), .sc (.int .i64 x.at_), .sc (.int .u64 x.seed)]
def e_S_bladeSearch (x : S_bladeSearch) : AV := .agg [.row 1 (List.map eI x.wears), .sc (.int .i64 x.life), .sc (.int .i64 x.left)]

def fc12 : FCfg := { par := [.cst false], inn := [(4, some ([3, 4, 5], [3, 4]))], out := [(6, some ([3, 4, 6, 7, 8, 9, 10, 11, 42], [3, 4, 6, 9])), (7, some ([2], [])), (9, some ([3, 4, 6, 7, 8, 10, 12, 80], [3, 4, 6])), (12, some ([2], [])), (13, some ([2], []))], loopK := [], frz := [], sch := [] }
def fc14 : FCfg := { par := [.cst false], inn := [], out := [], loopK := [], frz := [], sch := [] }
def fc37 : FCfg := { par := [.cst false, .cst false, .cst false], inn := [(4, some ([2, 3, 9, 10], [3])), (10, some ([11, 12, 13, 14], [13, 36]))], out := [(2, some ([2, 3, 9, 10, 27], [3]))], loopK := [(9, ([11, 12], [36]))], frz := [9], sch := [] }
def fc75 : FCfg := { par := [.cst false], inn := [(3, some ([2, 5, 6], [2, 6, 9])), (4, some ([2, 5, 6, 7], [2, 6, 7, 9]))], out := [(4, some ([2, 3, 4], [2, 3]))], loopK := [], frz := [], sch := [(4, .first 1 [5, 6] [0, 2, 3, 4] (.first 2 [3, 4, 5, 6] [0] (.first 0 [4, 5, 6] [3] (.fork 3 (.fork 4 (.fork 5 (.fork 6 (.done) (.stop)) (.stop)) (.stop)) (.stop)))))] }
def fc76 : FCfg := { par := [.cst false, .cst false], inn := [(2, some ([2, 7, 8], [2, 7])), (10, some ([2, 7, 9], [2, 7, 9])), (11, some ([2, 7, 9], [2, 7, 9])), (15, some ([2, 7, 11, 12, 14, 43, 44, 45], [2, 7, 9, 11, 12, 14])), (19, some ([2, 7, 11, 12, 14, 15, 43, 44, 45], [2, 7, 9, 11, 12, 14])), (21, some ([2, 7, 11, 12, 43, 44, 45], [2, 7, 9, 11, 12])), (22, some ([11, 12], [11, 12]))], out := [(19, some ([2, 7, 11, 12, 14, 15, 43, 44, 45], [2, 7, 9, 11, 12, 14]))], loopK := [(6, ([2, 7, 9, 27, 28], [2, 7, 9])), (13, ([2, 7, 11, 12, 43, 44, 45], [2, 7, 9, 11, 12]))], frz := [], sch := [(19, .first 0 [2, 3, 8, 9, 10] [1, 4, 5, 6, 7] (.first 1 [2, 3, 8, 9, 10] [4, 5, 6, 7] (.first 2 [3, 8, 9, 10] [4, 5, 6, 7] (.first 3 [8, 9, 10] [4, 5, 6, 7] (.first 4 [6, 7, 8, 9, 10] [5] (.first 5 [6, 7, 8, 9, 10] [] (.first 6 [7, 8, 9, 10] [] (.first 7 [8, 9, 10] [] (.first 8 [9, 10] [] (.first 9 [10] [] (.fork 10 (.done) (.stop))))))))))))] }
def fc77 : FCfg := { par := [.cst false, .cst false], inn := [], out := [(4, some ([4, 5], []))], loopK := [], frz := [], sch := [(4, .first 0 [1, 4, 5, 6] [2, 3] (.first 2 [3, 4, 5, 6] [1] (.first 3 [4, 5, 6] [1] (.fork 1 (.fork 4 (.fork 5 (.fork 6 (.done) (.stop)) (.stop)) (.stop)) (.stop)))))] }
def fc78 : FCfg := { par := [.cst false, .cst false, .cst false, .cst false], inn := [(10, some ([1, 2, 3, 4, 9, 10, 11, 12], [4])), (19, some ([1, 2, 3, 4, 9, 10, 11], [4])), (21, some ([], []))], out := [(1, some ([1, 2, 3, 4, 25], [4])), (11, some ([1, 2, 3, 4, 9, 10, 11, 12, 49], [4])), (19, some ([1, 2, 3, 4, 9, 78], [4]))], loopK := [(4, ([1, 2, 3, 4, 9], [4])), (9, ([1, 2, 3, 4, 9, 10, 11, 12], [4]))], frz := [], sch := [] }
def fc85 : FCfg := { par := [.cst false], inn := [], out := [], loopK := [], frz := [], sch := [] }
def fc87 : FCfg := { par := [.ptr [.imm, .imm, .imm]], inn := [(2, some ([0], [0])), (3, some ([0], [0]))], out := [], loopK := [], frz := [], sch := [] }
def fc92 : FCfg := { par := [.cst false, .cst false, .cst false], inn := [], out := [(1, some ([6], []))], loopK := [], frz := [], sch := [] }
def fc99 : FCfg := { par := [.ptr [.imm, .imm, .imm], .cst false], inn := [], out := [], loopK := [], frz := [], sch := [] }
def fc102 : FCfg := { par := [.cst false, .cst false, .cst false], inn := [], out := [(1, some ([6], []))], loopK := [], frz := [], sch := [] }
def fc114 : FCfg := { par := [.cst false, .cst false], inn := [(7, some ([2, 6, 8, 18, 19, 20], [2, 6, 8])), (11, some ([6], [6]))], out := [(1, some ([1, 2, 16], [2])), (7, some ([2, 6, 8, 18, 19, 20, 28], [2, 6, 8]))], loopK := [(5, ([2, 6, 18, 19, 20], [2, 6]))], frz := [], sch := [(7, .first 0 [1, 4] [2, 3] (.first 2 [3, 4] [1] (.first 3 [4] [1] (.fork 1 (.first 4 [] [] (.done)) (.stop)))))] }
def fc115 : FCfg := { par := [.ptr [.imm, .imm, .imm], .mv, .cst false, .cst false], inn := [(6, some ([0, 1, 2, 3, 10, 11], [0, 1])), (10, some ([0, 1, 2, 3, 10, 11, 12], [0, 1, 12])), (14, some ([0, 1, 2, 3, 10, 11, 12], [0, 1, 12])), (15, some ([0, 1, 2, 3, 10, 11, 12], [0, 1, 12])), (16, some ([0, 1, 2, 3, 10, 11, 13, 14], [0, 1, 13])), (18, some ([], [0]))], out := [(5, some ([0, 1, 2, 3, 10, 11, 40], [0, 1])), (10, some ([0, 1, 2, 3, 10, 11, 12, 62], [0, 1, 12]))], loopK := [(5, ([0, 1, 2, 3, 10, 11], [0, 1]))], frz := [], sch := [(10, .first 0 [2, 3, 5, 10] [1, 4, 6, 7, 8, 9] (.first 1 [2, 3, 5, 10] [4, 6, 7, 8, 9] (.first 2 [3, 5, 10] [4, 6, 7, 8, 9] (.first 3 [5, 10] [4, 6, 7, 8, 9] (.first 4 [5, 10] [6, 7, 8, 9] (.first 5 [10] [6, 7, 8, 9] (.first 6 [7, 8, 9, 10] [] (.first 7 [8, 9, 10] [] (.first 8 [9, 10] [] (.first 9 [10] [] (.first 10 [] [] (.done))))))))))))] }
def fc150 : FCfg := { par := [.cst false, .cst false], inn := [(7, some ([], []))], out := [], loopK := [(2, ([0, 1, 7, 8], []))], frz := [], sch := [] }
def fc167 : FCfg := { par := [.ptr [.imm, .imm, .imm]], inn := [(2, some ([0, 2, 3], [0, 2, 3])), (3, some ([0, 2, 3, 7], [0, 2, 3])), (11, some ([2, 3], [0, 2, 3]))], out := [], loopK := [], frz := [], sch := [] }
def fc168 : FCfg := { par := [.ptr [.imm, .imm, .imm]], inn := [(5, some ([0, 3, 4, 5], [0, 3, 4])), (7, some ([0, 3, 4, 5], [0, 3, 4])), (8, some ([0, 4], [0, 4])), (9, some ([0, 4, 28], [0, 4])), (13, some ([6], [0])), (20, some ([4], [0, 4]))], out := [], loopK := [(4, ([0, 3, 4, 5], [0, 3, 4])), (15, ([4, 6, 7], [0, 4]))], frz := [], sch := [] }
def fc169 : FCfg := { par := [.row, .cst false], inn := [], out := [], loopK := [], frz := [], sch := [] }
def fc170 : FCfg := { par := [.cst false, .cst false], inn := [], out := [(1, some ([5], []))], loopK := [], frz := [], sch := [(1, .first 0 [2, 3, 8, 9] [1, 4, 5, 6, 7] (.first 1 [2, 3, 8, 9] [4, 5, 6, 7] (.first 2 [3, 8, 9] [4, 5, 6, 7] (.first 3 [8, 9] [4, 5, 6, 7] (.first 4 [6, 7, 8, 9] [5] (.first 5 [6, 7, 8, 9] [] (.first 6 [7, 8, 9] [] (.first 7 [8, 9] [] (.first 8 [9] [] (.fork 9 (.done) (.stop)))))))))))] }
def fc171 : FCfg := { par := [.cst false], inn := [], out := [(1, some ([5], []))], loopK := [], frz := [], sch := [(1, .first 0 [5, 8, 9] [1, 2, 3, 4, 6, 7] (.first 1 [3, 4, 5, 8, 9] [2, 6, 7] (.first 2 [3, 4, 5, 8, 9] [6, 7] (.first 3 [4, 5, 8, 9] [6, 7] (.first 4 [5, 8, 9] [6, 7] (.first 5 [8, 9] [6, 7] (.first 6 [7, 8, 9] [] (.first 7 [8, 9] [] (.first 8 [9] [] (.fork 9 (.done) (.stop)))))))))))] }
def fc172 : FCfg := { par := [.cst false, .cst false], inn := [], out := [], loopK := [], frz := [], sch := [] }
def fc173 : FCfg := { par := [.cst false], inn := [(7, some ([3], []))], out := [], loopK := [(3, ([3, 6, 7, 8], []))], frz := [], sch := [] }
def fc174 : FCfg := { par := [.cst false], inn := [], out := [], loopK := [], frz := [], sch := [] }
def fc183 : FCfg := { par := [.ptr [.imm, .imm, .imm], .cst false], inn := [], out := [], loopK := [], frz := [], sch := [] }
def fc184 : FCfg := { par := [.ptr [.imm, .imm, .imm], .cst false], inn := [(4, some ([0, 1, 5], [0])), (6, some ([1, 5], [0]))], out := [], loopK := [], frz := [], sch := [] }
def fc196 : FCfg := { par := [.cst false], inn := [], out := [(1, some ([2], []))], loopK := [], frz := [], sch := [(1, .first 0 [1, 2, 3, 8, 9, 10, 11] [4, 5, 6, 7] (.first 1 [2, 3, 8, 9, 10, 11] [4, 5, 6, 7] (.first 2 [3, 8, 9, 10, 11] [4, 5, 6, 7] (.first 3 [8, 9, 10, 11] [4, 5, 6, 7] (.first 4 [5, 6, 7, 8, 9, 10, 11] [] (.first 5 [6, 7, 8, 9, 10, 11] [] (.first 6 [7, 8, 9, 10, 11] [] (.first 7 [8, 9, 10, 11] [] (.first 8 [9, 10, 11] [] (.first 9 [10, 11] [] (.first 10 [11] [] (.fork 11 (.done) (.stop)))))))))))))] }
def fc197 : FCfg := { par := [.cst false], inn := [], out := [(1, some ([2], []))], loopK := [], frz := [], sch := [] }
def fc198 : FCfg := { par := [.cst false], inn := [(4, some ([0, 3, 4, 5, 6, 7], [4])), (7, some ([0], []))], out := [(4, some ([0, 5, 6, 7, 29], []))], loopK := [(2, ([0, 5, 6, 7], []))], frz := [], sch := [(4, .first 0 [1, 2, 3, 4, 5, 6, 7, 8, 9, 10, 11, 12, 13, 14, 15, 16, 17] [] (.fork 1 (.first 2 [3, 4, 5, 6, 7, 8, 9, 10, 11, 12, 13, 14, 15, 16, 17] [] (.first 3 [4, 5, 6, 7, 8, 9, 10, 11, 12, 13, 14, 15, 16, 17] [] (.first 4 [5, 6, 7, 8, 9, 10, 11, 12, 13, 14, 15, 16, 17] [] (.first 5 [6, 7, 8, 9, 10, 11, 12, 13, 14, 15, 16, 17] [] (.first 6 [7, 8, 9, 10, 11, 12, 13, 14, 15, 16, 17] [] (.first 7 [10, 11, 12, 15, 16, 17] [8, 9, 13, 14] (.first 8 [9, 10, 11, 12, 15, 16, 17] [13, 14] (.first 9 [10, 11, 12, 15, 16, 17] [13, 14] (.first 10 [11, 12, 15, 16, 17] [13, 14] (.first 11 [12, 15, 16, 17] [13, 14] (.first 12 [15, 16, 17] [13, 14] (.first 13 [14, 15, 16, 17] [] (.first 14 [15, 16, 17] [] (.first 15 [16, 17] [] (.first 16 [17] [] (.first 17 [] [] (.done))))))))))))))))) (.stop)))] }
def fc199 : FCfg := { par := [.cst false], inn := [], out := [], loopK := [], frz := [], sch := [] }
def fc238 : FCfg := { par := [.ptr [.imm, .imm, .imm]], inn := [(2, some ([0, 2, 3], [0, 2, 3])), (3, some ([0, 2, 3], [0, 2, 3])), (4, some ([0, 2, 3], [0, 2, 3])), (5, some ([2, 3], [0, 2, 3]))], out := [], loopK := [], frz := [], sch := [] }
def fc239 : FCfg := { par := [.ptr [.imm, .imm, .imm], .cst false], inn := [], out := [], loopK := [], frz := [], sch := [] }
def fc240 : FCfg := { par := [.ptr [.imm, .imm, .imm], .cst false], inn := [(2, some ([0, 4, 5], [0, 4, 5])), (3, some ([4, 5], [0, 4, 5]))], out := [], loopK := [], frz := [], sch := [] }
def fc241 : FCfg := { par := [.row, .cst false, .cst false], inn := [(4, some ([0, 1, 2, 6, 8], [0])), (6, some ([0, 1, 2, 6, 7], [0])), (11, some ([0, 1, 2, 6, 8], [0])), (13, some ([0, 1, 2, 6, 7], [0])), (16, some ([0, 1, 2, 6], [0]))], out := [], loopK := [(2, ([0, 1, 2, 6, 7, 8], [0])), (7, ([0, 1, 2, 6], [0])), (9, ([0, 1, 2, 6, 7, 8], [0]))], frz := [], sch := [] }
def fc242 : FCfg := { par := [.cst false], inn := [], out := [(1, some ([2], []))], loopK := [], frz := [], sch := [] }
def fc248 : FCfg := { par := [.ptr [.imm, .imm, .imm]], inn := [(4, some ([0, 3], [0])), (5, some ([0, 3], [0])), (6, some ([0, 3], [0]))], out := [(2, some ([0, 3, 13], [0])), (3, some ([0, 3], [0])), (6, some ([0, 3, 53], [0]))], loopK := [], frz := [], sch := [(2, .first 0 [1, 2, 3, 9] [4, 5, 6, 7, 8] (.first 1 [2, 3, 9] [4, 5, 6, 7, 8] (.first 2 [3, 9] [4, 5, 6, 7, 8] (.first 3 [9] [4, 5, 6, 7, 8] (.first 4 [5, 6, 7, 8, 9] [] (.first 5 [6, 7, 8, 9] [] (.first 6 [7, 8, 9] [] (.first 7 [8, 9] [] (.first 8 [9] [] (.first 9 [] [] (.done))))))))))), (3, .first 0 [1, 2, 3, 8, 9, 10, 11] [4, 5, 6, 7] (.first 1 [2, 3, 8, 9, 10, 11] [4, 5, 6, 7] (.first 2 [3, 8, 9, 10, 11] [4, 5, 6, 7] (.first 3 [8, 9, 10, 11] [4, 5, 6, 7] (.first 4 [5, 6, 7, 8, 9, 10, 11] [] (.first 5 [6, 7, 8, 9, 10, 11] [] (.first 6 [7, 8, 9, 10, 11] [] (.first 7 [8, 9, 10, 11] [] (.first 8 [9, 10, 11] [] (.first 9 [10, 11] [] (.fork 10 (.fork 11 (.done) (.stop)) (.stop)))))))))))), (6, .first 0 [1, 2, 3, 9] [4, 5, 6, 7, 8] (.first 1 [2, 3, 9] [4, 5, 6, 7, 8] (.first 2 [3, 9] [4, 5, 6, 7, 8] (.first 3 [9] [4, 5, 6, 7, 8] (.first 4 [5, 6, 7, 8, 9] [] (.first 5 [6, 7, 8, 9] [] (.first 6 [7, 8, 9] [] (.first 7 [8, 9] [] (.first 8 [9] [] (.first 9 [] [] (.done)))))))))))] }
def fc250 : FCfg := { par := [.cst false], inn := [(8, some ([], []))], out := [(1, some ([0, 21], [])), (6, some ([0, 3, 49], []))], loopK := [(4, ([0, 3], []))], frz := [], sch := [] }
def fc252 : FCfg := { par := [.cst false], inn := [(8, some ([], []))], out := [(1, some ([0, 16], [])), (6, some ([0, 3, 34], []))], loopK := [(4, ([0, 3], []))], frz := [], sch := [] }
def fc253 : FCfg := { par := [.cst false], inn := [], out := [(1, some ([2], []))], loopK := [], frz := [], sch := [] }
def fc272 : FCfg := { par := [.row, .cst false, .cst false, .cst false], inn := [(2, some ([0, 1, 2, 3, 8], [0]))], out := [(4, some ([0, 1, 2, 3, 8, 9, 34], [0])), (6, some ([0, 1, 2, 3, 8, 9], [0]))], loopK := [(1, ([0, 1, 2, 3, 8], [0])), (4, ([0, 1, 2, 3, 8, 9], [0]))], frz := [], sch := [(4, .first 0 [2, 3, 4, 5, 6, 7, 8, 9, 10, 11, 12, 13, 14, 15, 16] [1] (.first 1 [2, 3, 4, 5, 6, 7, 8, 9, 10, 11, 12, 13, 14, 15, 16] [] (.first 2 [3, 4, 5, 6, 7, 8, 9, 10, 11, 12, 13, 14, 15, 16] [] (.first 3 [4, 5, 6, 7, 8, 9, 10, 11, 12, 13, 14, 15, 16] [] (.first 4 [14, 15, 16] [5, 6, 7, 8, 9, 10, 11, 12, 13] (.first 5 [7, 8, 14, 15, 16] [6, 9, 10, 11, 12, 13] (.first 6 [7, 8, 14, 15, 16] [9, 10, 11, 12, 13] (.first 7 [8, 14, 15, 16] [9, 10, 11, 12, 13] (.first 8 [14, 15, 16] [9, 10, 11, 12, 13] (.first 9 [12, 13, 14, 15, 16] [10, 11] (.first 10 [11, 12, 13, 14, 15, 16] [] (.first 11 [12, 13, 14, 15, 16] [] (.first 12 [13, 14, 15, 16] [] (.first 13 [14, 15, 16] [] (.fork 14 (.first 15 [16] [] (.first 16 [] [] (.done))) (.stop)))))))))))))))), (6, .first 0 [14, 15, 16, 17] [1, 2, 3, 4, 5, 6, 7, 8, 9, 10, 11, 12, 13] (.first 1 [14, 15, 16, 17] [2, 3, 4, 5, 6, 7, 8, 9, 10, 11, 12, 13] (.first 2 [16, 17] [3, 4, 5, 6, 7, 8, 9, 10, 11, 12, 13, 14, 15] (.first 3 [4, 16, 17] [5, 6, 7, 8, 9, 10, 11, 12, 13, 14, 15] (.first 4 [16, 17] [5, 6, 7, 8, 9, 10, 11, 12, 13, 14, 15] (.first 5 [8, 9, 14, 15, 16, 17] [6, 7, 10, 11, 12, 13] (.first 6 [7, 8, 9, 14, 15, 16, 17] [10, 11, 12, 13] (.first 7 [8, 9, 14, 15, 16, 17] [10, 11, 12, 13] (.first 8 [9, 14, 15, 16, 17] [10, 11, 12, 13] (.first 9 [14, 15, 16, 17] [10, 11, 12, 13] (.first 10 [12, 13, 14, 15, 16, 17] [11] (.first 11 [12, 13, 14, 15, 16, 17] [] (.first 12 [13, 14, 15, 16, 17] [] (.first 13 [14, 15, 16, 17] [] (.first 14 [15, 16, 17] [] (.fork 15 (.first 16 [17] [] (.fork 17 (.done) (.stop))) (.stop)))))))))))))))))] }
def fc273 : FCfg := { par := [.row, .cst false, .cst false, .cst false, .cst false], inn := [(8, some ([0, 1, 10], [0])), (20, some ([0, 2, 14], [0])), (32, some ([0, 1, 2, 3, 4, 18, 19, 20, 21], [0])), (38, some ([0, 1, 2, 3, 4, 18, 19, 20], [0])), (41, some ([0, 1, 3, 4, 18, 20, 24], [0])), (43, some ([0, 3, 4, 18, 24], [0]))], out := [(5, some ([0, 1, 4, 10, 11, 12, 50], [0])), (11, some ([0, 10, 13], [0])), (17, some ([0, 2, 4, 14, 15, 16, 103], [0])), (23, some ([0, 14, 17], [0])), (35, some ([0, 1, 2, 3, 4, 18, 19, 20, 21, 22, 23, 171], [0])), (39, some ([0, 1, 2, 3, 4, 18, 20, 24, 185], [0])), (41, some ([0, 1, 3, 4, 18, 20, 24, 199], [0])), (43, some ([0, 3, 4, 18, 24, 213], [0]))], loopK := [(3, ([0, 1, 4, 10, 11], [0])), (9, ([0, 10, 13], [0])), (15, ([0, 2, 4, 14, 15], [0])), (21, ([0, 14, 17], [0])), (33, ([0, 1, 2, 3, 4, 18, 19, 20, 21, 22], [0]))], frz := [], sch := [(5, .first 0 [9, 10] [1, 2, 3, 4, 5, 6, 7, 8] (.first 1 [3, 4, 9, 10] [2, 5, 6, 7, 8] (.first 2 [3, 4, 9, 10] [5, 6, 7, 8] (.first 3 [4, 9, 10] [5, 6, 7, 8] (.first 4 [9, 10] [5, 6, 7, 8] (.first 5 [7, 8, 9, 10] [6] (.first 6 [7, 8, 9, 10] [] (.first 7 [8, 9, 10] [] (.first 8 [9, 10] [] (.fork 9 (.first 10 [] [] (.done)) (.stop))))))))))), (11, .first 0 [14, 15, 16, 17] [1, 2, 3, 4, 5, 6, 7, 8, 9, 10, 11, 12, 13] (.first 1 [14, 15, 16, 17] [2, 3, 4, 5, 6, 7, 8, 9, 10, 11, 12, 13] (.first 2 [16, 17] [3, 4, 5, 6, 7, 8, 9, 10, 11, 12, 13, 14, 15] (.first 3 [4, 16, 17] [5, 6, 7, 8, 9, 10, 11, 12, 13, 14, 15] (.first 4 [16, 17] [5, 6, 7, 8, 9, 10, 11, 12, 13, 14, 15] (.first 5 [8, 9, 14, 15, 16, 17] [6, 7, 10, 11, 12, 13] (.first 6 [7, 8, 9, 14, 15, 16, 17] [10, 11, 12, 13] (.first 7 [8, 9, 14, 15, 16, 17] [10, 11, 12, 13] (.first 8 [9, 14, 15, 16, 17] [10, 11, 12, 13] (.first 9 [14, 15, 16, 17] [10, 11, 12, 13] (.first 10 [12, 13, 14, 15, 16, 17] [11] (.first 11 [12, 13, 14, 15, 16, 17] [] (.first 12 [13, 14, 15, 16, 17] [] (.first 13 [14, 15, 16, 17] [] (.first 14 [15, 16, 17] [] (.fork 15 (.first 16 [17] [] (.fork 17 (.done) (.stop))) (.stop))))))))))))))))), (17, .first 0 [9, 10, 11] [1, 2, 3, 4, 5, 6, 7, 8] (.first 1 [3, 4, 9, 10, 11] [2, 5, 6, 7, 8] (.first 2 [3, 4, 9, 10, 11] [5, 6, 7, 8] (.first 3 [4, 9, 10, 11] [5, 6, 7, 8] (.first 4 [9, 10, 11] [5, 6, 7, 8] (.first 5 [7, 8, 9, 10, 11] [6] (.first 6 [7, 8, 9, 10, 11] [] (.first 7 [8, 9, 10, 11] [] (.first 8 [9, 10, 11] [] (.fork 9 (.first 10 [11] [] (.first 11 [] [] (.done))) (.stop))))))))))), (23, .first 0 [14, 15, 16, 17] [1, 2, 3, 4, 5, 6, 7, 8, 9, 10, 11, 12, 13] (.first 1 [14, 15, 16, 17] [2, 3, 4, 5, 6, 7, 8, 9, 10, 11, 12, 13] (.first 2 [16, 17] [3, 4, 5, 6, 7, 8, 9, 10, 11, 12, 13, 14, 15] (.first 3 [4, 16, 17] [5, 6, 7, 8, 9, 10, 11, 12, 13, 14, 15] (.first 4 [16, 17] [5, 6, 7, 8, 9, 10, 11, 12, 13, 14, 15] (.first 5 [8, 9, 14, 15, 16, 17] [6, 7, 10, 11, 12, 13] (.first 6 [7, 8, 9, 14, 15, 16, 17] [10, 11, 12, 13] (.first 7 [8, 9, 14, 15, 16, 17] [10, 11, 12, 13] (.first 8 [9, 14, 15, 16, 17] [10, 11, 12, 13] (.first 9 [14, 15, 16, 17] [10, 11, 12, 13] (.first 10 [12, 13, 14, 15, 16, 17] [11] (.first 11 [12, 13, 14, 15, 16, 17] [] (.first 12 [13, 14, 15, 16, 17] [] (.first 13 [14, 15, 16, 17] [] (.first 14 [15, 16, 17] [] (.fork 15 (.first 16 [17] [] (.fork 17 (.done) (.stop))) (.stop))))))))))))))))), (35, .first 0 [11, 12, 13] [1, 2, 3, 4, 5, 6, 7, 8, 9, 10] (.first 1 [5, 6, 11, 12, 13] [2, 3, 4, 7, 8, 9, 10] (.first 2 [4, 5, 6, 11, 12, 13] [3, 7, 8, 9, 10] (.first 3 [4, 5, 6, 11, 12, 13] [7, 8, 9, 10] (.first 4 [5, 6, 11, 12, 13] [7, 8, 9, 10] (.first 5 [6, 11, 12, 13] [7, 8, 9, 10] (.first 6 [11, 12, 13] [7, 8, 9, 10] (.first 7 [9, 10, 11, 12, 13] [8] (.first 8 [9, 10, 11, 12, 13] [] (.first 9 [10, 11, 12, 13] [] (.first 10 [11, 12, 13] [] (.fork 11 (.first 12 [13] [] (.first 13 [] [] (.done))) (.stop)))))))))))))] }
def fc276 : FCfg := { par := [.cst false], inn := [], out := [(1, some ([2], []))], loopK := [], frz := [], sch := [] }
def fc277 : FCfg := { par := [.cst false], inn := [], out := [(1, some ([2], []))], loopK := [], frz := [], sch := [] }
def fc284 : FCfg := { par := [.row, .cst false, .cst false, .cst false, .cst false], inn := [(5, some ([0, 2, 4, 10, 11], [0])), (7, some ([0, 2, 4, 10, 11], [0])), (8, some ([0, 2, 4, 10], [0]))], out := [], loopK := [(2, ([0, 2, 4, 10, 11], [0]))], frz := [], sch := [] }
def fc286 : FCfg := { par := [.row, .cst false, .cst false, .cst false, .cst false], inn := [], out := [(3, some ([0, 1, 2, 3, 10], [0]))], loopK := [(1, ([0, 1, 2, 3, 10], [0]))], frz := [], sch := [(3, .first 0 [20, 21, 22, 23] [1, 2, 3, 4, 5, 6, 7, 8, 9, 10, 11, 12, 13, 14, 15, 16, 17, 18, 19] (.first 1 [3, 20, 21, 22, 23] [2, 4, 5, 6, 7, 8, 9, 10, 11, 12, 13, 14, 15, 16, 17, 18, 19] (.first 2 [3, 20, 21, 22, 23] [4, 5, 6, 7, 8, 9, 10, 11, 12, 13, 14, 15, 16, 17, 18, 19] (.first 3 [20, 21, 22, 23] [4, 5, 6, 7, 8, 9, 10, 11, 12, 13, 14, 15, 16, 17, 18, 19] (.first 4 [22, 23] [5, 6, 7, 8, 9, 10, 11, 12, 13, 14, 15, 16, 17, 18, 19, 20, 21] (.first 5 [7, 22, 23] [6, 8, 9, 10, 11, 12, 13, 14, 15, 16, 17, 18, 19, 20, 21] (.first 6 [7, 22, 23] [8, 9, 10, 11, 12, 13, 14, 15, 16, 17, 18, 19, 20, 21] (.first 7 [22, 23] [8, 9, 10, 11, 12, 13, 14, 15, 16, 17, 18, 19, 20, 21] (.first 8 [12, 13, 20, 21, 22, 23] [9, 10, 11, 14, 15, 16, 17, 18, 19] (.first 9 [11, 12, 13, 20, 21, 22, 23] [10, 14, 15, 16, 17, 18, 19] (.first 10 [11, 12, 13, 20, 21, 22, 23] [14, 15, 16, 17, 18, 19] (.first 11 [12, 13, 20, 21, 22, 23] [14, 15, 16, 17, 18, 19] (.first 12 [13, 20, 21, 22, 23] [14, 15, 16, 17, 18, 19] (.first 13 [20, 21, 22, 23] [14, 15, 16, 17, 18, 19] (.first 14 [18, 19, 20, 21, 22, 23] [15, 16, 17] (.first 15 [17, 18, 19, 20, 21, 22, 23] [16] (.first 16 [17, 18, 19, 20, 21, 22, 23] [] (.first 17 [18, 19, 20, 21, 22, 23] [] (.first 18 [19, 20, 21, 22, 23] [] (.first 19 [20, 21, 22, 23] [] (.first 20 [21, 22, 23] [] (.fork 21 (.first 22 [23] [] (.fork 23 (.done) (.stop))) (.stop)))))))))))))))))))))))] }
def fcs : List (Nat × FCfg) := [(12, fc12), (14, fc14), (37, fc37), (75, fc75), (76, fc76), (77, fc77), (78, fc78), (85, fc85), (87, fc87), (92, fc92), (99, fc99), (102, fc102), (114, fc114), (115, fc115), (150, fc150), (167, fc167), (168, fc168), (169, fc169), (170, fc170), (171, fc171), (172, fc172), (173, fc173), (174, fc174), (183, fc183), (184, fc184), (196, fc196), (197, fc197), (198, fc198), (199, fc199), (238, fc238), (239, fc239), (240, fc240), (241, fc241), (242, fc242), (248, fc248), (250, fc250), (252, fc252), (253, fc253), (272, fc272), (273, fc273), (276, fc276), (277, fc277), (284, fc284), (286, fc286)]
def ons : List (Nat × Bool) := [(12, true), (14, true), (37, true), (75, true), (76, true), (77, true), (78, true), (85, true), (87, true), (92, true), (99, true), (102, true), (114, true), (115, true), (150, true), (167, true), (168, true), (169, true), (170, true), (171, true), (172, true), (173, true), (174, true), (183, true), (184, true), (196, true), (197, true), (198, true), (199, true), (238, true), (239, true), (240, true), (241, true), (242, true), (248, true), (250, true), (252, true), (253, true), (272, true), (273, true), (276, true), (277, true), (284, true), (286, true)]
def cfg : Cfg := mkCfg ons fcs [(187, some (extCloneN 1 8))]
theorem c12 : cfg.fc 12 = fc12 := rfl
theorem z12 : (cfg.fc 12).frz = [] := rfl
theorem c14 : cfg.fc 14 = fc14 := rfl
theorem z14 : (cfg.fc 14).frz = [] := rfl
theorem c37 : cfg.fc 37 = fc37 := rfl
theorem z37 : (cfg.fc 37).frz = [9] := rfl
theorem c75 : cfg.fc 75 = fc75 := rfl
theorem z75 : (cfg.fc 75).frz = [] := rfl
theorem c76 : cfg.fc 76 = fc76 := rfl
theorem z76 : (cfg.fc 76).frz = [] := rfl
theorem c77 : cfg.fc 77 = fc77 := rfl
theorem z77 : (cfg.fc 77).frz = [] := rfl
theorem c78 : cfg.fc 78 = fc78 := rfl
theorem z78 : (cfg.fc 78).frz = [] := rfl
theorem c85 : cfg.fc 85 = fc85 := rfl
theorem z85 : (cfg.fc 85).frz = [] := rfl
theorem c87 : cfg.fc 87 = fc87 := rfl
theorem z87 : (cfg.fc 87).frz = [] := rfl
theorem c92 : cfg.fc 92 = fc92 := rfl
theorem z92 : (cfg.fc 92).frz = [] := rfl
theorem c99 : cfg.fc 99 = fc99 := rfl
theorem z99 : (cfg.fc 99).frz = [] := rfl
theorem c102 : cfg.fc 102 = fc102 := rfl
theorem z102 : (cfg.fc 102).frz = [] := rfl
theorem c114 : cfg.fc 114 = fc114 := rfl
theorem z114 : (cfg.fc 114).frz = [] := rfl
theorem c115 : cfg.fc 115 = fc115 := rfl
theorem z115 : (cfg.fc 115).frz = [] := rfl
theorem c150 : cfg.fc 150 = fc150 := rfl
theorem z150 : (cfg.fc 150).frz = [] := rfl
theorem c167 : cfg.fc 167 = fc167 := rfl
theorem z167 : (cfg.fc 167).frz = [] := rfl
theorem c168 : cfg.fc 168 = fc168 := rfl
theorem z168 : (cfg.fc 168).frz = [] := rfl
theorem c169 : cfg.fc 169 = fc169 := rfl
theorem z169 : (cfg.fc 169).frz = [] := rfl
theorem c170 : cfg.fc 170 = fc170 := rfl
theorem z170 : (cfg.fc 170).frz = [] := rfl
theorem c171 : cfg.fc 171 = fc171 := rfl
theorem z171 : (cfg.fc 171).frz = [] := rfl
theorem c172 : cfg.fc 172 = fc172 := rfl
theorem z172 : (cfg.fc 172).frz = [] := rfl
theorem c173 : cfg.fc 173 = fc173 := rfl
theorem z173 : (cfg.fc 173).frz = [] := rfl
theorem c174 : cfg.fc 174 = fc174 := rfl
theorem z174 : (cfg.fc 174).frz = [] := rfl
theorem c183 : cfg.fc 183 = fc183 := rfl
theorem z183 : (cfg.fc 183).frz = [] := rfl
theorem c184 : cfg.fc 184 = fc184 := rfl
theorem z184 : (cfg.fc 184).frz = [] := rfl
theorem c196 : cfg.fc 196 = fc196 := rfl
theorem z196 : (cfg.fc 196).frz = [] := rfl
theorem c197 : cfg.fc 197 = fc197 := rfl
theorem z197 : (cfg.fc 197).frz = [] := rfl
theorem c198 : cfg.fc 198 = fc198 := rfl
theorem z198 : (cfg.fc 198).frz = [] := rfl
theorem c199 : cfg.fc 199 = fc199 := rfl
theorem z199 : (cfg.fc 199).frz = [] := rfl
theorem c238 : cfg.fc 238 = fc238 := rfl
theorem z238 : (cfg.fc 238).frz = [] := rfl
theorem c239 : cfg.fc 239 = fc239 := rfl
theorem z239 : (cfg.fc 239).frz = [] := rfl
theorem c240 : cfg.fc 240 = fc240 := rfl
theorem z240 : (cfg.fc 240).frz = [] := rfl
theorem c241 : cfg.fc 241 = fc241 := rfl
theorem z241 : (cfg.fc 241).frz = [] := rfl
theorem c242 : cfg.fc 242 = fc242 := rfl
theorem z242 : (cfg.fc 242).frz = [] := rfl
theorem c248 : cfg.fc 248 = fc248 := rfl
theorem z248 : (cfg.fc 248).frz = [] := rfl
theorem c250 : cfg.fc 250 = fc250 := rfl
theorem z250 : (cfg.fc 250).frz = [] := rfl
theorem c252 : cfg.fc 252 = fc252 := rfl
theorem z252 : (cfg.fc 252).frz = [] := rfl
theorem c253 : cfg.fc 253 = fc253 := rfl
theorem z253 : (cfg.fc 253).frz = [] := rfl
theorem c272 : cfg.fc 272 = fc272 := rfl
theorem z272 : (cfg.fc 272).frz = [] := rfl
theorem c273 : cfg.fc 273 = fc273 := rfl
theorem z273 : (cfg.fc 273).frz = [] := rfl
theorem c276 : cfg.fc 276 = fc276 := rfl
theorem z276 : (cfg.fc 276).frz = [] := rfl
theorem c277 : cfg.fc 277 = fc277 := rfl
theorem z277 : (cfg.fc 277).frz = [] := rfl
theorem c284 : cfg.fc 284 = fc284 := rfl
theorem z284 : (cfg.fc 284).frz = [] := rfl
theorem c286 : cfg.fc 286 = fc286 := rfl
theorem z286 : (cfg.fc 286).frz = [] := rfl
theorem bF163 : buildF Try.prog 163 = some ([.im 0 (.sc (.string ⟨#[]⟩)), .im 0 (.sc (.int .i64 0)), .im 0 (.sc (.int .i64 0))], [(0, 1), (1, 1), (2, 1)]) := by kernel_rfl
theorem bF168 : buildF Try.prog 168 = some ([.nil, .im 0 (.sc (.int .i64 0)), .im 0 (.sc (.int .i64 0))], [(0, 1), (1, 1), (2, 1)]) := by kernel_rfl
theorem bF283 : buildF Try.prog 283 = some ([.nil, .im 0 (.sc (.int .i64 0)), .im 0 (.sc (.int .u64 0))], [(0, 1), (1, 1), (2, 1)]) := by kernel_rfl
theorem bF54 : buildF Try.prog 54 = some ([.im 0 (.sc (.string ⟨#[]⟩)), .im 0 (.sc (.int .i64 0)), .im 0 (.sc (.int .i64 0)), .im 0 (.sc (.int .i64 0))], [(0, 1), (1, 1), (2, 1), (3, 1)]) := by kernel_rfl
theorem eF27 : elemSz Try.prog 27 = some (2, 1) := by kernel_rfl
theorem eF56 : elemSz Try.prog 56 = some (163, 3) := by kernel_rfl
theorem fF163_0 : fieldF Try.prog 163 0 = some 0 := by kernel_rfl
theorem fF163_1 : fieldF Try.prog 163 1 = some 1 := by kernel_rfl
theorem fF163_2 : fieldF Try.prog 163 2 = some 2 := by kernel_rfl
theorem fF168_0 : fieldF Try.prog 168 0 = some 0 := by kernel_rfl
theorem fF168_1 : fieldF Try.prog 168 1 = some 1 := by kernel_rfl
theorem fF168_2 : fieldF Try.prog 168 2 = some 2 := by kernel_rfl
theorem fF283_0 : fieldF Try.prog 283 0 = some 0 := by kernel_rfl
theorem fF283_1 : fieldF Try.prog 283 1 = some 1 := by kernel_rfl
theorem fF283_2 : fieldF Try.prog 283 2 = some 2 := by kernel_rfl
theorem fF54_0 : fieldF Try.prog 54 0 = some 0 := by kernel_rfl
theorem fF54_1 : fieldF Try.prog 54 1 = some 1 := by kernel_rfl
theorem fF54_2 : fieldF Try.prog 54 2 = some 2 := by kernel_rfl
theorem fF54_3 : fieldF Try.prog 54 3 = some 3 := by kernel_rfl
theorem kF102_2_2_2 : callK Try.prog cfg 102 0 [2, 2, 2] = [(.cst false, [none]), (.cst false, [none]), (.cst false, [none])] := by kernel_rfl
theorem kF114_54_56 : callK Try.prog cfg 114 0 [54, 56] = [(.cst false, [none, none, none, none]), (.cst false, [some 3])] := by kernel_rfl
theorem kF115_166_27_27_3 : callK Try.prog cfg 115 0 [166, 27, 27, 3] = [(.ptr [.imm, .imm, .imm], [none]), (.mv, [some 1]), (.cst false, [some 1]), (.cst false, [none])] := by kernel_rfl
theorem kF14_22 : callK Try.prog cfg 14 0 [22] = [(.cst false, [some 1])] := by kernel_rfl
theorem kF150_27_139 : callK Try.prog cfg 150 0 [27, 139] = [(.cst false, [some 1]), (.cst false, [none])] := by kernel_rfl
theorem kF167_121 : callK Try.prog cfg 167 0 [121] = [(.ptr [.imm, .imm, .imm], [none])] := by kernel_rfl
theorem kF168_121 : callK Try.prog cfg 168 0 [121] = [(.ptr [.imm, .imm, .imm], [none])] := by kernel_rfl
theorem kF169_267_269 : callK Try.prog cfg 169 0 [267, 269] = [(.row, [some 1]), (.cst false, [none])] := by kernel_rfl
theorem kF170_3_3_0 : callK Try.prog cfg 170 0 [3, 3, 0] = [(.cst false, [none]), (.cst false, [none]), (.cst false, [none])] := by kernel_rfl
theorem kF171_2_0_0_0 : callK Try.prog cfg 171 0 [2, 0, 0, 0] = [(.cst false, [none]), (.cst false, [none]), (.cst false, [none]), (.cst false, [none])] := by kernel_rfl
theorem kF172_2_2 : callK Try.prog cfg 172 0 [2, 2] = [(.cst false, [none]), (.cst false, [none])] := by kernel_rfl
theorem kF173_27 : callK Try.prog cfg 173 0 [27] = [(.cst false, [some 1])] := by kernel_rfl
theorem kF174_163 : callK Try.prog cfg 174 0 [163] = [(.cst false, [none, none, none])] := by kernel_rfl
theorem kF183_121_2 : callK Try.prog cfg 183 0 [121, 2] = [(.ptr [.imm, .imm, .imm], [none]), (.cst false, [none])] := by kernel_rfl
theorem kF184_121_2 : callK Try.prog cfg 184 0 [121, 2] = [(.ptr [.imm, .imm, .imm], [none]), (.cst false, [none])] := by kernel_rfl
theorem kF187_27 : callK Try.prog cfg 187 0 [27] = [(.cst false, [some 1])] := by kernel_rfl
theorem kF196_291 : callK Try.prog cfg 196 0 [291] = [(.cst false, [none])] := by kernel_rfl
theorem kF197_54 : callK Try.prog cfg 197 0 [54] = [(.cst false, [none, none, none, none])] := by kernel_rfl
theorem kF198_56 : callK Try.prog cfg 198 0 [56] = [(.cst false, [some 3])] := by kernel_rfl
theorem kF199_163 : callK Try.prog cfg 199 0 [163] = [(.cst false, [none, none, none])] := by kernel_rfl
theorem kF238_121 : callK Try.prog cfg 238 0 [121] = [(.ptr [.imm, .imm, .imm], [none])] := by kernel_rfl
theorem kF239_121_296 : callK Try.prog cfg 239 0 [121, 296] = [(.ptr [.imm, .imm, .imm], [none]), (.cst false, [some 1])] := by kernel_rfl
theorem kF240_121_9 : callK Try.prog cfg 240 0 [121, 9] = [(.ptr [.imm, .imm, .imm], [none]), (.cst false, [none])] := by kernel_rfl
theorem kF241_267_3_269 : callK Try.prog cfg 241 0 [267, 3, 269] = [(.row, [some 1]), (.cst false, [none]), (.cst false, [none])] := by kernel_rfl
theorem kF242_291 : callK Try.prog cfg 242 0 [291] = [(.cst false, [none])] := by kernel_rfl
theorem kF248_121 : callK Try.prog cfg 248 0 [121] = [(.ptr [.imm, .imm, .imm], [none])] := by kernel_rfl
theorem kF250_9 : callK Try.prog cfg 250 0 [9] = [(.cst false, [none])] := by kernel_rfl
theorem kF252_9 : callK Try.prog cfg 252 0 [9] = [(.cst false, [none])] := by kernel_rfl
theorem kF253_163 : callK Try.prog cfg 253 0 [163] = [(.cst false, [none, none, none])] := by kernel_rfl
theorem kF272_267_3_3_269 : callK Try.prog cfg 272 0 [267, 3, 3, 269] = [(.row, [some 1]), (.cst false, [none]), (.cst false, [none]), (.cst false, [none])] := by kernel_rfl
theorem kF273_267_3_3_3_269 : callK Try.prog cfg 273 0 [267, 3, 3, 3, 269] = [(.row, [some 1]), (.cst false, [none]), (.cst false, [none]), (.cst false, [none]), (.cst false, [none])] := by kernel_rfl
theorem kF276_5 : callK Try.prog cfg 276 0 [5] = [(.cst false, [none])] := by kernel_rfl
theorem kF277_5 : callK Try.prog cfg 277 0 [5] = [(.cst false, [none])] := by kernel_rfl
theorem kF284_267_3_3_3_269 : callK Try.prog cfg 284 0 [267, 3, 3, 3, 269] = [(.row, [some 1]), (.cst false, [none]), (.cst false, [none]), (.cst false, [none]), (.cst false, [none])] := by kernel_rfl
theorem kF286_267_3_3_3_269 : callK Try.prog cfg 286 0 [267, 3, 3, 3, 269] = [(.row, [some 1]), (.cst false, [none]), (.cst false, [none]), (.cst false, [none]), (.cst false, [none])] := by kernel_rfl
theorem kF37_54_56_2 : callK Try.prog cfg 37 0 [54, 56, 2] = [(.cst false, [none, none, none, none]), (.cst false, [some 3]), (.cst false, [none])] := by kernel_rfl
theorem kF75_22 : callK Try.prog cfg 75 0 [22] = [(.cst false, [some 1])] := by kernel_rfl
theorem kF76_54_56 : callK Try.prog cfg 76 0 [54, 56] = [(.cst false, [none, none, none, none]), (.cst false, [some 3])] := by kernel_rfl
theorem kF77_54_56 : callK Try.prog cfg 77 0 [54, 56] = [(.cst false, [none, none, none, none]), (.cst false, [some 3])] := by kernel_rfl
theorem kF78_54_56_27_2 : callK Try.prog cfg 78 0 [54, 56, 27, 2] = [(.cst false, [none, none, none, none]), (.cst false, [some 3]), (.cst false, [some 1]), (.cst false, [none])] := by kernel_rfl
theorem kF85_22 : callK Try.prog cfg 85 0 [22] = [(.cst false, [some 1])] := by kernel_rfl
theorem kF87_121 : callK Try.prog cfg 87 0 [121] = [(.ptr [.imm, .imm, .imm], [none])] := by kernel_rfl
theorem kF92_2_2_2 : callK Try.prog cfg 92 0 [2, 2, 2] = [(.cst false, [none]), (.cst false, [none]), (.cst false, [none])] := by kernel_rfl
theorem kF99_121_27 : callK Try.prog cfg 99 0 [121, 27] = [(.ptr [.imm, .imm, .imm], [none]), (.cst false, [some 1])] := by kernel_rfl
theorem rF102 : resK Try.prog (Try.f102.results.toList.zip Try.f102.resultTypes.toList) = [(.tmp 6, [none], none)] := by kernel_rfl
theorem rF114 : resK Try.prog (Try.f114.results.toList.zip Try.f114.resultTypes.toList) = [(.tmp 4, [some 1], none), (.tmp 5, [none], none)] := by kernel_rfl
theorem rF115 : resK Try.prog (Try.f115.results.toList.zip Try.f115.resultTypes.toList) = [(.tmp 8, [some 1], none), (.tmp 9, [none], none)] := by kernel_rfl
theorem rF12 : resK Try.prog (Try.f12.results.toList.zip Try.f12.resultTypes.toList) = [(.tmp 2, [none], none)] := by kernel_rfl
theorem rF14 : resK Try.prog (Try.f14.results.toList.zip Try.f14.resultTypes.toList) = [(.tmp 2, [none], none)] := by kernel_rfl
theorem rF150 : resK Try.prog (Try.f150.results.toList.zip Try.f150.resultTypes.toList) = [(.tmp 4, [none], none)] := by kernel_rfl
theorem rF167 : resK Try.prog (Try.f167.results.toList.zip Try.f167.resultTypes.toList) = [(.cell 2 54, [none, none, none, none], some (true, 4))] := by kernel_rfl
theorem rF168 : resK Try.prog (Try.f168.results.toList.zip Try.f168.resultTypes.toList) = [(.tmp 2, [some 3], none)] := by kernel_rfl
theorem rF169 : resK Try.prog (Try.f169.results.toList.zip Try.f169.resultTypes.toList) = [] := by kernel_rfl
theorem rF170 : resK Try.prog (Try.f170.results.toList.zip Try.f170.resultTypes.toList) = [(.tmp 5, [none], none)] := by kernel_rfl
theorem rF171 : resK Try.prog (Try.f171.results.toList.zip Try.f171.resultTypes.toList) = [(.tmp 5, [none], none)] := by kernel_rfl
theorem rF172 : resK Try.prog (Try.f172.results.toList.zip Try.f172.resultTypes.toList) = [(.tmp 4, [none], none)] := by kernel_rfl
theorem rF173 : resK Try.prog (Try.f173.results.toList.zip Try.f173.resultTypes.toList) = [(.tmp 2, [none], none)] := by kernel_rfl
theorem rF174 : resK Try.prog (Try.f174.results.toList.zip Try.f174.resultTypes.toList) = [(.tmp 2, [none], none), (.tmp 3, [none], none)] := by kernel_rfl
theorem rF183 : resK Try.prog (Try.f183.results.toList.zip Try.f183.resultTypes.toList) = [(.tmp 4, [none], none)] := by kernel_rfl
theorem rF184 : resK Try.prog (Try.f184.results.toList.zip Try.f184.resultTypes.toList) = [(.tmp 4, [none], none)] := by kernel_rfl
theorem rF187 : resK Try.prog (Try.f187.results.toList.zip Try.f187.resultTypes.toList) = [(.tmp 2, [some 1], none)] := by kernel_rfl
theorem rF196 : resK Try.prog (Try.f196.results.toList.zip Try.f196.resultTypes.toList) = [(.tmp 2, [none], none)] := by kernel_rfl
theorem rF197 : resK Try.prog (Try.f197.results.toList.zip Try.f197.resultTypes.toList) = [(.tmp 2, [none], none)] := by kernel_rfl
theorem rF198 : resK Try.prog (Try.f198.results.toList.zip Try.f198.resultTypes.toList) = [(.tmp 2, [none], none)] := by kernel_rfl
theorem rF199 : resK Try.prog (Try.f199.results.toList.zip Try.f199.resultTypes.toList) = [(.tmp 2, [none], none)] := by kernel_rfl
theorem rF238 : resK Try.prog (Try.f238.results.toList.zip Try.f238.resultTypes.toList) = [(.cell 2 54, [none, none, none, none], some (true, 4))] := by kernel_rfl
theorem rF239 : resK Try.prog (Try.f239.results.toList.zip Try.f239.resultTypes.toList) = [(.tmp 4, [none], none)] := by kernel_rfl
theorem rF240 : resK Try.prog (Try.f240.results.toList.zip Try.f240.resultTypes.toList) = [(.cell 4 163, [none, none, none], some (true, 3))] := by kernel_rfl
theorem rF241 : resK Try.prog (Try.f241.results.toList.zip Try.f241.resultTypes.toList) = [] := by kernel_rfl
theorem rF242 : resK Try.prog (Try.f242.results.toList.zip Try.f242.resultTypes.toList) = [(.tmp 2, [none], none)] := by kernel_rfl
theorem rF248 : resK Try.prog (Try.f248.results.toList.zip Try.f248.resultTypes.toList) = [(.tmp 2, [none], none)] := by kernel_rfl
theorem rF250 : resK Try.prog (Try.f250.results.toList.zip Try.f250.resultTypes.toList) = [(.tmp 2, [none], none)] := by kernel_rfl
theorem rF252 : resK Try.prog (Try.f252.results.toList.zip Try.f252.resultTypes.toList) = [(.tmp 2, [none], none)] := by kernel_rfl
theorem rF253 : resK Try.prog (Try.f253.results.toList.zip Try.f253.resultTypes.toList) = [(.tmp 2, [none], none)] := by kernel_rfl
theorem rF272 : resK Try.prog (Try.f272.results.toList.zip Try.f272.resultTypes.toList) = [] := by kernel_rfl
theorem rF273 : resK Try.prog (Try.f273.results.toList.zip Try.f273.resultTypes.toList) = [] := by kernel_rfl
theorem rF276 : resK Try.prog (Try.f276.results.toList.zip Try.f276.resultTypes.toList) = [(.tmp 2, [none], none)] := by kernel_rfl
theorem rF277 : resK Try.prog (Try.f277.results.toList.zip Try.f277.resultTypes.toList) = [(.tmp 2, [none], none)] := by kernel_rfl
theorem rF284 : resK Try.prog (Try.f284.results.toList.zip Try.f284.resultTypes.toList) = [] := by kernel_rfl
theorem rF286 : resK Try.prog (Try.f286.results.toList.zip Try.f286.resultTypes.toList) = [] := by kernel_rfl
theorem rF37 : resK Try.prog (Try.f37.results.toList.zip Try.f37.resultTypes.toList) = [(.tmp 6, [some 1], none), (.tmp 7, [none], none), (.tmp 8, [none], none)] := by kernel_rfl
theorem rF75 : resK Try.prog (Try.f75.results.toList.zip Try.f75.resultTypes.toList) = [(.cell 2 54, [none, none, none, none], some (true, 4)), (.tmp 3, [some 3], none), (.tmp 4, [none], none)] := by kernel_rfl
theorem rF76 : resK Try.prog (Try.f76.results.toList.zip Try.f76.resultTypes.toList) = [(.tmp 4, [some 1], none), (.tmp 5, [none], none), (.tmp 6, [none], none)] := by kernel_rfl
theorem rF77 : resK Try.prog (Try.f77.results.toList.zip Try.f77.resultTypes.toList) = [(.tmp 4, [none], none), (.tmp 5, [none], none)] := by kernel_rfl
theorem rF78 : resK Try.prog (Try.f78.results.toList.zip Try.f78.resultTypes.toList) = [(.tmp 8, [none], none)] := by kernel_rfl
theorem rF85 : resK Try.prog (Try.f85.results.toList.zip Try.f85.resultTypes.toList) = [(.tmp 2, [none], none)] := by kernel_rfl
theorem rF87 : resK Try.prog (Try.f87.results.toList.zip Try.f87.resultTypes.toList) = [(.tmp 2, [none], none)] := by kernel_rfl
theorem rF92 : resK Try.prog (Try.f92.results.toList.zip Try.f92.resultTypes.toList) = [(.tmp 6, [none], none)] := by kernel_rfl
theorem rF99 : resK Try.prog (Try.f99.results.toList.zip Try.f99.resultTypes.toList) = [(.tmp 4, [none], none)] := by kernel_rfl
theorem sF22 : sliceF Try.prog 22 = some (5, 1, [none], false, 1, [.im 0 (.sc (.int .u8 0))]) := by kernel_rfl
theorem sF267 : sliceF Try.prog 267 = some (3, 1, [none], false, 8, [.im 0 (.sc (.int .i64 0))]) := by kernel_rfl
theorem sF27 : sliceF Try.prog 27 = some (2, 1, [none], false, 8, [.im 0 (.sc (.int .i64 0))]) := by kernel_rfl
theorem sF296 : sliceF Try.prog 296 = some (9, 1, [none], false, 16, [.im 0 (.sc (.string ⟨#[]⟩))]) := by kernel_rfl
theorem sF56 : sliceF Try.prog 56 = some (163, 3, [none, none, none], true, 32, [.im 0 (.sc (.string ⟨#[]⟩)), .im 0 (.sc (.int .i64 0)), .im 0 (.sc (.int .i64 0))]) := by kernel_rfl
theorem tF163 : tyF Try.prog 163 = some ([.im 0 (.sc (.string ⟨#[]⟩)), .im 0 (.sc (.int .i64 0)), .im 0 (.sc (.int .i64 0))], [none, none, none], true, 3) := by kernel_rfl
theorem tF168 : tyF Try.prog 168 = some ([.nil, .im 0 (.sc (.int .i64 0)), .im 0 (.sc (.int .i64 0))], [some 1, none, none], true, 3) := by kernel_rfl
theorem tF2 : tyF Try.prog 2 = some ([.im 0 (.sc (.int .i64 0))], [none], false, 1) := by kernel_rfl
theorem tF22 : tyF Try.prog 22 = some ([.nil], [some 1], false, 1) := by kernel_rfl
theorem tF27 : tyF Try.prog 27 = some ([.nil], [some 1], false, 1) := by kernel_rfl
theorem tF281 : tyF Try.prog 281 = some ([.im 0 (.sc (.int .u64 0))], [none], false, 1) := by kernel_rfl
theorem tF283 : tyF Try.prog 283 = some ([.nil, .im 0 (.sc (.int .i64 0)), .im 0 (.sc (.int .u64 0))], [some 1, none, none], true, 3) := by kernel_rfl
theorem tF3 : tyF Try.prog 3 = some ([.im 0 (.sc (.int .i64 0))], [none], false, 1) := by kernel_rfl
theorem tF5 : tyF Try.prog 5 = some ([.im 0 (.sc (.int .u8 0))], [none], false, 1) := by kernel_rfl
theorem tF54 : tyF Try.prog 54 = some ([.im 0 (.sc (.string ⟨#[]⟩)), .im 0 (.sc (.int .i64 0)), .im 0 (.sc (.int .i64 0)), .im 0 (.sc (.int .i64 0))], [none, none, none, none], true, 4) := by kernel_rfl
theorem tF9 : tyF Try.prog 9 = some ([.im 0 (.sc (.string ⟨#[]⟩))], [none], false, 1) := by kernel_rfl
theorem uF2 : Try.prog.underlying 2 = some (.int .i64) := by kernel_rfl
theorem uF22 : Try.prog.underlying 22 = some (.slice 5) := by kernel_rfl
theorem uF267 : Try.prog.underlying 267 = some (.slice 3) := by kernel_rfl
theorem uF27 : Try.prog.underlying 27 = some (.slice 2) := by kernel_rfl
theorem uF281 : Try.prog.underlying 281 = some (.int .u64) := by kernel_rfl
theorem uF296 : Try.prog.underlying 296 = some (.slice 9) := by kernel_rfl
theorem uF3 : Try.prog.underlying 3 = some (.int .i64) := by kernel_rfl
theorem uF364 : Try.prog.underlying 364 = some (.int .u64) := by kernel_rfl
theorem uF5 : Try.prog.underlying 5 = some (.int .u8) := by kernel_rfl
theorem uF56 : Try.prog.underlying 56 = some (.slice 163) := by kernel_rfl
theorem uF9 : Try.prog.underlying 9 = some .string := by kernel_rfl

theorem sgTn {P : Program} {cfg : Cfg} {C : CallF} {f nt d : Nat} {ops : Array Oper} {l : List Oper} {st st1 X : St} {op : Op} {ty : TypeId} {pos : String} {aft : Array Edge} {fz : List Nat} (hz : (cfg.fc f).frz = fz) (hd : fz.any (·.beq d) = false) {j t dj : Nat} {want v : Bool} (hj : (ops[j]?).bind (·.dst) = some dj) (hb : st.sl dj = .v false [.im t (.sc (.bool v))]) (hv : v = want)
    (h : evOp P cfg C nt ⟨some d, op, ty, pos, aft, some (j, want)⟩ st = some st1) (hr : evL P cfg f nt C ops l st1 = some X) : evL P cfg f nt C ops (⟨some d, op, ty, pos, aft, some (j, want)⟩ :: l) st = some X := by
  have hy : yields ops st j = some (some want) := by
    unfold yields
    rw [hj]
    simp only [hb, SV.bool?, hv, Option.map_some]
  simp only [evL, hy, Option.bind_some, if_true, h, Option.map_some, hz, hd, cond]
  exact hr

theorem L_laws_b10Long {code_0 : (List Int)} {r : Bool} (h : laws_b10Long code_0 = some r) : FL Try.prog cfg 14 [.im 2 false [.row 1 (List.map (eK .u8) code_0)]] = some ([(false, [.im 0 (.sc (.bool r))])], []) := by
  unfold laws_b10Long at h
  refine FL_goS (A := [(0, .v false [.im 2 (.row 1 (List.map (eK .u8) code_0))])]) (B := [(0, none)]) (nt := 6) rfl rfl Try.func14 rfl rfl rfl rfl ?_
  refine Go.seq ?_
  refine Go.r0 c14 rfl rfl (sq z14 (oAsI rfl rfl) <| nl) ?_
  refine Unw.seq ?_
  refine Go.seq ?_
  refine Go.r0 c14 rfl rfl (sq z14 (oMv rfl rfl) <| sq z14 (oLnI rfl rfl uF22 rfl) <| sq z14 (oBi rfl rfl rfl rfl) <| sq z14 (oAsI rfl rfl) <| nl) ?_
  refine Unw.seq ?_
  refine Go.ret (Unw.ret ?_)
  cases h
  exact Fin_ret (fin_of rfl rF14 rfl (by kernel_rfl))
theorem L_spec_l00From {code_0 : (List Int)} {r : S_l00Src} (h : spec_l00From code_0 = some r) : FL Try.prog cfg 85 [.im 2 false [.row 1 (List.map (eK .u8) code_0)]] = some ([(false, [.pt true [⟨.imm, 2, .row 1 (List.map (eK .u8) r.code)⟩, ⟨.imm, 0, .sc (.int .i64 r.at_)⟩, ⟨.imm, 0, .sc (.int .u64 r.seed)⟩]])], []) := by
  unfold spec_l00From at h
  refine FL_goS (A := [(0, .v false [.im 2 (.row 1 (List.map (eK .u8) code_0))])]) (B := [(0, none)]) (nt := 6) rfl rfl Try.func85 rfl rfl rfl rfl ?_
  refine Go.seq ?_
  refine Go.r0 c85 rfl rfl (sq z85 (oAsI rfl rfl) <| nl) ?_
  refine Unw.seq ?_
  refine Go.seq ?_
  refine Go.r0 c85 rfl rfl (sq z85 (oMv rfl rfl) <| sq z85 (oBu (cs := [.im 2 _, .im 0 _, .im 0 _]) rfl bF283 rfl) <| sq z85 (oBx rfl tF283 rfl (tkI (tkI (tkI tk0)))) <| sq z85 (oAsP rfl rfl) <| nl) ?_
  refine Unw.seq ?_
  refine Go.ret (Unw.ret ?_)
  cases h
  exact Fin_ret (fin_of rfl rF85 rfl (by kernel_rfl))
theorem L_spec_l00Src_next {s_0 : S_l00Src} {r : (Int × S_l00Src)} (h : spec_l00Src_next s_0 = some r) : FL Try.prog cfg 248 [.ptr true [(.imm, .row 1 (List.map (eK .u8) s_0.code)), (.imm, .sc (.int .i64 s_0.at_)), (.imm, .sc (.int .u64 s_0.seed))]] = some ([(false, [.im 0 (.sc (.int .i64 r.1))])], [.ptr true [(.imm, .row 1 (List.map (eK .u8) r.2.code)), (.imm, .sc (.int .i64 r.2.at_)), (.imm, .sc (.int .u64 r.2.seed))]]) := by
  unfold spec_l00Src_next at h
  refine FL_goS (A := [(0, .v false [.mp 0 0 0])]) (B := [(0, some ⟨0, 0, true, true, false, true, [⟨.imm, 0, 1, .row 1 (List.map (eK .u8) s_0.code)⟩, ⟨.imm, 0, 0, .sc (.int .i64 s_0.at_)⟩, ⟨.imm, 0, 0, .sc (.int .u64 s_0.seed)⟩]⟩)]) (nt := 62) rfl rfl Try.func248 rfl rfl rfl rfl ?_
  refine Go.seq ?_
  refine Go.r0 c248 rfl rfl (sq z248 (oAsI rfl rfl) <| nl) ?_
  refine Unw.seq ?_
  refine Go.seq ?_
  refine Go.r0 c248 rfl rfl (sq z248 (oAsI rfl rfl) <| nl) ?_
  refine Unw.seq ?_
  refine Go.seq ?_
  refine Go.seq ?_
  refine Go.dr c248 rfl rfl rfl rfl (mk [(0, .v false [.mp 0 0 0]), (3, iv 0), (13, bv (decide (s_0.at_ < (s_0.code.length : Int))))] [(0, some ⟨0, 0, true, true, false, true, [⟨.imm, 0, 1, .row 1 (List.map (eK .u8) s_0.code)⟩, ⟨.imm, 0, 0, .sc (.int .i64 s_0.at_)⟩, ⟨.imm, 0, 0, .sc (.int .u64 s_0.seed)⟩]⟩)]) (sT rfl (dN z248 rfl (oMv rfl rfl)) <| sT rfl (dN z248 rfl (oNl rfl rfl rfl)) <| sT rfl (dN z248 rfl (oFA (r' := .mp 0 0 1) rfl fF283_1 rfl rfl)) <| sT rfl (dN z248 rfl (oLd (cs := [.im 0 _]) rfl tF3 rfl rfl)) <| sT rfl (dN z248 rfl (oMv rfl rfl)) <| sT rfl (dN z248 rfl (oNl rfl rfl rfl)) <| sT rfl (dN z248 rfl (oFA (r' := .mp 0 0 0) rfl fF283_0 rfl rfl)) <| sT rfl (dN z248 rfl (oLd (cs := [.im 1 _]) rfl tF22 rfl rfl)) <| sT rfl (dN z248 rfl (oLnI rfl rfl uF22 rfl)) <| sT rfl (dN z248 rfl (oBi rfl rfl rfl rfl)) <| sD (by kernel_rfl)) ?_
  refine Unw.seq ?_
  refine Go.join (fun st => ∃ b_3_r4, spec_l00Src_next_k4 s_0 b_3_r4 = some r ∧ st.norm ([0, 3], [0]) = mk [(0, .v false [.mp 0 0 0]), (3, iv b_3_r4)] [(0, some ⟨0, 0, true, true, false, true, [⟨.imm, 0, 1, .row 1 (List.map (eK .u8) s_0.code)⟩, ⟨.imm, 0, 0, .sc (.int .i64 s_0.at_)⟩, ⟨.imm, 0, 0, .sc (.int .u64 s_0.seed)⟩]⟩)]) ?_ ?_
  · rintro st ⟨b_3_r4, h, hst⟩
    unfold spec_l00Src_next_k4 at h
    refine Unw.seq ?_
    refine Go.seq ?_
    refine Go.r1 c248 rfl rfl hst (sq z248 (oMv rfl rfl) <| sq z248 (oNl rfl rfl rfl) <| sq z248 (oFA (r' := .mp 0 0 1) rfl fF283_1 rfl rfl) <| sq z248 (oLd (cs := [.im 0 _]) rfl tF3 rfl rfl) <| sq z248 (oBi rfl rfl rfl rfl) <| sq z248 (oNl rfl rfl rfl) <| sq z248 (oFA (r' := .mp 0 0 1) rfl fF283_1 rfl rfl) <| sq z248 (oSt tF3 rfl rfl rfl (tkI tk0) rfl rfl rfl) <| nl) ?_
    refine Unw.seq ?_
    refine Go.seq ?_
    refine Go.r1 c248 rfl rfl (st1 := mk [(0, .v false [.mp 0 0 0]), (3, iv b_3_r4)] [(0, some ⟨0, 0, true, true, false, true, [⟨.imm, 0, 1, .row 1 (List.map (eK .u8) s_0.code)⟩, ⟨.imm, 0, 0, .sc (.int .i64 (w64 (s_0.at_ + 1)))⟩, ⟨.imm, 0, 0, .sc (.int .u64 s_0.seed)⟩]⟩)]) (by kernel_rfl) (sq z248 (oMv rfl rfl) <| sq z248 (oMv rfl rfl) <| sq z248 (oNl rfl rfl rfl) <| sq z248 (oFA (r' := .mp 0 0 2) rfl fF283_2 rfl rfl) <| sq z248 (oLd (cs := [.im 0 _]) rfl tF281 rfl rfl) <| sq z248 (oBi rfl rfl rfl rfl) <| sq z248 (oMv rfl rfl) <| sq z248 (oCvI rfl uF3 uF281 rfl) <| sq z248 (oBi rfl rfl rfl rfl) <| sq z248 (oBi rfl rfl rfl rfl) <| sq z248 (oNl rfl rfl rfl) <| sq z248 (oFA (r' := .mp 0 0 2) rfl fF283_2 rfl rfl) <| sq z248 (oSt tF281 rfl rfl rfl (tkI tk0) rfl rfl rfl) <| nl) ?_
    refine Unw.seq ?_
    refine Go.seq ?_
    refine Go.seq ?_
    refine Go.dr c248 rfl rfl rfl (st1 := mk [(0, .v false [.mp 0 0 0]), (3, iv b_3_r4)] [(0, some ⟨0, 0, true, true, false, true, [⟨.imm, 0, 1, .row 1 (List.map (eK .u8) s_0.code)⟩, ⟨.imm, 0, 0, .sc (.int .i64 (w64 (s_0.at_ + 1)))⟩, ⟨.imm, 0, 0, .sc (.int .u64 (IntKind.wrap .u64 ((IntKind.wrap .u64 ((IntKind.wrap .u64 (s_0.seed * 6364136223846793005)) + (IntKind.wrap .u64 (b_3_r4)))) + 1442695040888963407)))⟩]⟩)]) (by kernel_rfl) (mk [(0, .v false [.mp 0 0 0]), (3, iv b_3_r4), (53, bv (decide ((w64 (s_0.at_ + 1)) ≤ (s_0.code.length : Int))))] [(0, some ⟨0, 0, true, true, false, true, [⟨.imm, 0, 1, .row 1 (List.map (eK .u8) s_0.code)⟩, ⟨.imm, 0, 0, .sc (.int .i64 (w64 (s_0.at_ + 1)))⟩, ⟨.imm, 0, 0, .sc (.int .u64 (IntKind.wrap .u64 ((IntKind.wrap .u64 ((IntKind.wrap .u64 (s_0.seed * 6364136223846793005)) + (IntKind.wrap .u64 (b_3_r4)))) + 1442695040888963407)))⟩]⟩)]) (sT rfl (dN z248 rfl (oMv rfl rfl)) <| sT rfl (dN z248 rfl (oNl rfl rfl rfl)) <| sT rfl (dN z248 rfl (oFA (r' := .mp 0 0 1) rfl fF283_1 rfl rfl)) <| sT rfl (dN z248 rfl (oLd (cs := [.im 0 _]) rfl tF3 rfl rfl)) <| sT rfl (dN z248 rfl (oMv rfl rfl)) <| sT rfl (dN z248 rfl (oNl rfl rfl rfl)) <| sT rfl (dN z248 rfl (oFA (r' := .mp 0 0 0) rfl fF283_0 rfl rfl)) <| sT rfl (dN z248 rfl (oLd (cs := [.im 1 _]) rfl tF22 rfl rfl)) <| sT rfl (dN z248 rfl (oLnI rfl rfl uF22 rfl)) <| sT rfl (dN z248 rfl (oBi rfl rfl rfl rfl)) <| sD (by kernel_rfl)) ?_
    refine Unw.seq ?_
    by_cases hc2 : (w64 (s_0.at_ + 1)) ≤ (s_0.code.length : Int)
    · rw [if_pos hc2] at h
      refine Go.condT rfl (iDec.2 hc2) ?_
      refine Go.seq ?_
      refine Go.r0 c248 rfl rfl (sq z248 (oMv rfl rfl) <| sq z248 (oAsI rfl rfl) <| nl) ?_
      refine Unw.seq ?_
      refine Go.ret (Unw.ret ?_)
      cases h
      exact Fin_ret (fin_of rfl rF248 rfl (by kernel_rfl))
    · rw [if_neg hc2] at h
      refine Go.condF rfl (byF iDec hc2) ?_
      refine Go.skip ?_
      refine Unw.seq ?_
      refine Go.seq ?_
      obtain ⟨x59, hx59, h⟩ := bs h
      refine Go.r0 c248 rfl rfl (sq z248 (oMv rfl rfl) <| sq z248 (oNl rfl rfl rfl) <| sq z248 (oFA (r' := .mp 0 0 2) rfl fF283_2 rfl rfl) <| sq z248 (oLd (cs := [.im 0 _]) rfl tF281 rfl rfl) <| sq z248 (oShr rfl hx59 rfl rfl) <| sq z248 (oBi rfl rfl rfl rfl) <| sq z248 (oCvI rfl uF281 uF2 rfl) <| sq z248 (oAsI rfl rfl) <| nl) ?_
      refine Unw.seq ?_
      refine Go.ret (Unw.ret ?_)
      cases h
      exact Fin_ret (fin_of rfl rF248 rfl (by kernel_rfl))
  · intro K3
    by_cases hc4 : s_0.at_ < (s_0.code.length : Int)
    · rw [if_pos hc4] at h
      refine Go.condT rfl (iDec.2 hc4) ?_
      obtain ⟨x22, hx22, h⟩ := bs h
      refine Go.dr c248 rfl rfl rfl rfl (mk [(0, .v false [.mp 0 0 0]), (3, iv (w64 (x22)))] [(0, some ⟨0, 0, true, true, false, true, [⟨.imm, 0, 1, .row 1 (List.map (eK .u8) s_0.code)⟩, ⟨.imm, 0, 0, .sc (.int .i64 s_0.at_)⟩, ⟨.imm, 0, 0, .sc (.int .u64 s_0.seed)⟩]⟩)]) (sT rfl (dN z248 rfl (oMv rfl rfl)) <| sT rfl (dN z248 rfl (oNl rfl rfl rfl)) <| sT rfl (dN z248 rfl (oFA (r' := .mp 0 0 0) rfl fF283_0 rfl rfl)) <| sT rfl (dN z248 rfl (oLd (cs := [.im 1 _]) rfl tF22 rfl rfl)) <| sT rfl (dN z248 rfl (oMv rfl rfl)) <| sT rfl (dN z248 rfl (oNl rfl rfl rfl)) <| sT rfl (dN z248 rfl (oFA (r' := .mp 0 0 1) rfl fF283_1 rfl rfl)) <| sT rfl (dN z248 rfl (oLd (cs := [.im 0 _]) rfl tF3 rfl rfl)) <| sT rfl (dN z248 rfl (oIAI rfl hx22 sF22 rfl rfl)) <| sT rfl (dN z248 rfl (oLd (cs := [.im 1 _]) rfl tF5 rfl rfl)) <| sS (dN z248 rfl (oCvI rfl uF5 uF3 rfl)) trivial (sS (dN z248 rfl (oAsI rfl rfl)) trivial (sD (by kernel_rfl)))) ?_
      exact K3 _ ⟨(w64 (x22)), h, (by kernel_rfl)⟩
    · rw [if_neg hc4] at h
      refine Go.condF rfl (byF iDec hc4) ?_
      refine Go.skip ?_
      exact K3 _ ⟨0, h, (by kernel_rfl)⟩
theorem L_spec_l00Src_pick {s_0 : S_l00Src} {n_1 : Int} {r : (Int × S_l00Src)} (h : spec_l00Src_pick s_0 n_1 = some r) : FL Try.prog cfg 184 [.ptr true [(.imm, .row 1 (List.map (eK .u8) s_0.code)), (.imm, .sc (.int .i64 s_0.at_)), (.imm, .sc (.int .u64 s_0.seed))], .im 2 false [.sc (.int .i64 n_1)]] = some ([(false, [.im 0 (.sc (.int .i64 r.1))])], [.ptr true [(.imm, .row 1 (List.map (eK .u8) r.2.code)), (.imm, .sc (.int .i64 r.2.at_)), (.imm, .sc (.int .u64 r.2.seed))]]) := by
  unfold spec_l00Src_pick at h
  refine FL_goS (A := [(0, .v false [.mp 0 0 0]), (1, .v false [.im 2 (.sc (.int .i64 n_1))])]) (B := [(0, some ⟨0, 0, true, true, false, true, [⟨.imm, 0, 1, .row 1 (List.map (eK .u8) s_0.code)⟩, ⟨.imm, 0, 0, .sc (.int .i64 s_0.at_)⟩, ⟨.imm, 0, 0, .sc (.int .u64 s_0.seed)⟩]⟩), (1, none)]) (nt := 20) rfl rfl Try.func184 rfl rfl rfl rfl ?_
  refine Go.seq ?_
  refine Go.r0 c184 rfl rfl (sq z184 (oAsI rfl rfl) <| nl) ?_
  refine Unw.seq ?_
  refine Go.seq ?_
  refine Go.seq ?_
  refine Go.r0 c184 rfl rfl (sq z184 (oMv rfl rfl) <| sq z184 (oBi rfl rfl rfl rfl) <| nl) ?_
  refine Unw.seq ?_
  by_cases hc1 : n_1 ≤ 1
  · rw [if_pos hc1] at h
    refine Go.condT rfl (iDec.2 hc1) ?_
    refine Go.seq ?_
    refine Go.r0 c184 rfl rfl (sq z184 (oAsI rfl rfl) <| nl) ?_
    refine Unw.seq ?_
    refine Go.ret (Unw.ret ?_)
    cases h
    exact Fin_ret (fin_of rfl rF184 rfl (by kernel_rfl))
  · rw [if_neg hc1] at h
    refine Go.condF rfl (byF iDec hc1) ?_
    refine Go.skip ?_
    refine Unw.seq ?_
    refine Go.seq ?_
    obtain ⟨x9, hx9, h⟩ := bs h
    refine Go.r0 c184 rfl rfl (sq z184 (oMv rfl rfl) <| sq z184 (oCa (xs := [.v false [.mp 0 0 0]]) (vs := [(false, [.im 0 _])]) (v := .v false [.im 0 _]) (L_spec_l00Src_next hx9) (.inl rfl) rfl kF248_121 rfl (ppP rfl rfl rfl pp0) rfl rfl (pbP rfl rfl pb0) rfl rfl rfl) <| sq z184 (oAsI rfl rfl) <| nl) ?_
    refine Unw.seq ?_
    refine Go.seq ?_
    refine Go.seq ?_
    refine Go.r1 c184 rfl rfl (st1 := mk [(0, .v false [.mp 0 0 0]), (1, iv n_1), (5, iv x9.1)] [(0, some ⟨0, 0, true, true, false, true, [⟨.imm, 0, 1, .row 1 (List.map (eK .u8) x9.2.code)⟩, ⟨.imm, 0, 0, .sc (.int .i64 x9.2.at_)⟩, ⟨.imm, 0, 0, .sc (.int .u64 x9.2.seed)⟩]⟩)]) (by kernel_rfl) (sq z184 (oMv rfl rfl) <| sq z184 (oBi rfl rfl rfl rfl) <| nl) ?_
    refine Unw.seq ?_
    refine Go.join (fun st => ∃ x_5_r6, ∃ s_o0_0_r6, ∃ s_o0_1_r6, ∃ s_o0_2_r6, spec_l00Src_pick_k6 n_1 x_5_r6 s_o0_0_r6 s_o0_1_r6 s_o0_2_r6 = some r ∧ st.norm ([1, 5], [0]) = mk [(1, iv n_1), (5, iv x_5_r6)] [(0, some ⟨0, 0, true, true, false, true, [⟨.imm, 0, 1, .row 1 (List.map (eK .u8) s_o0_0_r6)⟩, ⟨.imm, 0, 0, .sc (.int .i64 s_o0_1_r6)⟩, ⟨.imm, 0, 0, .sc (.int .u64 s_o0_2_r6)⟩]⟩)]) ?_ ?_
    · rintro st ⟨x_5_r6, s_o0_0_r6, s_o0_1_r6, s_o0_2_r6, h, hst⟩
      unfold spec_l00Src_pick_k6 at h
      refine Unw.seq ?_
      refine Go.seq ?_
      obtain ⟨x19, hx19, h⟩ := bs h
      refine Go.r1 c184 rfl rfl hst (sq z184 (oMv rfl rfl) <| sq z184 (oMv rfl rfl) <| sq z184 (oRem rfl hx19 rfl rfl) <| sq z184 (oAsI rfl rfl) <| nl) ?_
      refine Unw.seq ?_
      refine Go.ret (Unw.ret ?_)
      cases h
      exact Fin_ret (fin_of rfl rF184 rfl (by kernel_rfl))
    · intro K3
      by_cases hc4 : n_1 > 200
      · rw [if_pos hc4] at h
        refine Go.condT rfl (iDec.2 hc4) ?_
        obtain ⟨x15, hx15, h⟩ := bs h
        refine Go.r0 c184 rfl rfl (sq z184 (oMv rfl rfl) <| sq z184 (oBi rfl rfl rfl rfl) <| sq z184 (oMv rfl rfl) <| sq z184 (oCa (xs := [.v false [.mp 0 0 0]]) (vs := [(false, [.im 0 _])]) (v := .v false [.im 0 _]) (L_spec_l00Src_next hx15) (.inl rfl) rfl kF248_121 rfl (ppP rfl rfl rfl pp0) rfl rfl (pbP rfl rfl pb0) rfl rfl rfl) <| sq z184 (oBi rfl rfl rfl rfl) <| sq z184 (oAsI rfl rfl) <| nl) ?_
        exact K3 _ ⟨(w64 ((w64 (x9.1 * 256)) + x15.1)), x15.2.code, x15.2.at_, x15.2.seed, h, (by kernel_rfl)⟩
      · rw [if_neg hc4] at h
        refine Go.condF rfl (byF iDec hc4) ?_
        refine Go.skip ?_
        exact K3 _ ⟨x9.1, x9.2.code, x9.2.at_, x9.2.seed, h, (by kernel_rfl)⟩
theorem L_spec_l00Src_text {s_0 : S_l00Src} {list_1 : (List ByteArray)} {r : (ByteArray × S_l00Src)} (h : spec_l00Src_text s_0 list_1 = some r) : FL Try.prog cfg 239 [.ptr true [(.imm, .row 1 (List.map (eK .u8) s_0.code)), (.imm, .sc (.int .i64 s_0.at_)), (.imm, .sc (.int .u64 s_0.seed))], .im 2 false [.row 1 (List.map eS list_1)]] = some ([(false, [.im 0 (.sc (.string r.1))])], [.ptr true [(.imm, .row 1 (List.map (eK .u8) r.2.code)), (.imm, .sc (.int .i64 r.2.at_)), (.imm, .sc (.int .u64 r.2.seed))]]) := by
  unfold spec_l00Src_text at h
  refine FL_goS (A := [(0, .v false [.mp 0 0 0]), (1, .v false [.im 2 (.row 1 (List.map eS list_1))])]) (B := [(0, some ⟨0, 0, true, true, false, true, [⟨.imm, 0, 1, .row 1 (List.map (eK .u8) s_0.code)⟩, ⟨.imm, 0, 0, .sc (.int .i64 s_0.at_)⟩, ⟨.imm, 0, 0, .sc (.int .u64 s_0.seed)⟩]⟩), (1, none)]) (nt := 12) rfl rfl Try.func239 rfl rfl rfl rfl ?_
  refine Go.seq ?_
  refine Go.r0 c239 rfl rfl (sq z239 (oAsI rfl rfl) <| nl) ?_
  refine Unw.seq ?_
  refine Go.seq ?_
  obtain ⟨x9, hx9, h⟩ := bs h
  obtain ⟨x10, hx10, h⟩ := bs h
  refine Go.r0 c239 rfl rfl (sq z239 (oMv rfl rfl) <| sq z239 (oMv rfl rfl) <| sq z239 (oMv rfl rfl) <| sq z239 (oLnI rfl rfl uF296 rfl) <| sq z239 (oCa (xs := [.v false [.mp 0 0 0], .v false [.im 0 _]]) (vs := [(false, [.im 0 _])]) (v := .v false [.im 0 _]) (L_spec_l00Src_pick hx9) (.inl rfl) rfl kF184_121_2 rfl (ppP rfl rfl rfl (ppC rfl pp0)) rfl rfl (pbP rfl rfl pb0) rfl rfl rfl) <| sq z239 (oIAI rfl hx10 sF296 rfl rfl) <| sq z239 (oLd (cs := [.im 2 _]) rfl tF9 rfl rfl) <| sq z239 (oAsI rfl rfl) <| nl) ?_
  refine Unw.seq ?_
  refine Go.ret (Unw.ret ?_)
  cases h
  exact Fin_ret (fin_of rfl rF239 rfl (by kernel_rfl))
theorem L_spec_l00Src_among {s_0 : S_l00Src} {list_1 : (List Int)} {r : (Int × S_l00Src)} (h : spec_l00Src_among s_0 list_1 = some r) : FL Try.prog cfg 99 [.ptr true [(.imm, .row 1 (List.map (eK .u8) s_0.code)), (.imm, .sc (.int .i64 s_0.at_)), (.imm, .sc (.int .u64 s_0.seed))], .im 2 false [.row 1 (List.map eI list_1)]] = some ([(false, [.im 0 (.sc (.int .i64 r.1))])], [.ptr true [(.imm, .row 1 (List.map (eK .u8) r.2.code)), (.imm, .sc (.int .i64 r.2.at_)), (.imm, .sc (.int .u64 r.2.seed))]]) := by
  unfold spec_l00Src_among at h
  refine FL_goS (A := [(0, .v false [.mp 0 0 0]), (1, .v false [.im 2 (.row 1 (List.map eI list_1))])]) (B := [(0, some ⟨0, 0, true, true, false, true, [⟨.imm, 0, 1, .row 1 (List.map (eK .u8) s_0.code)⟩, ⟨.imm, 0, 0, .sc (.int .i64 s_0.at_)⟩, ⟨.imm, 0, 0, .sc (.int .u64 s_0.seed)⟩]⟩), (1, none)]) (nt := 12) rfl rfl Try.func99 rfl rfl rfl rfl ?_
  refine Go.seq ?_
  refine Go.r0 c99 rfl rfl (sq z99 (oAsI rfl rfl) <| nl) ?_
  refine Unw.seq ?_
  refine Go.seq ?_
  obtain ⟨x9, hx9, h⟩ := bs h
  obtain ⟨x10, hx10, h⟩ := bs h
  refine Go.r0 c99 rfl rfl (sq z99 (oMv rfl rfl) <| sq z99 (oMv rfl rfl) <| sq z99 (oMv rfl rfl) <| sq z99 (oLnI rfl rfl uF27 rfl) <| sq z99 (oCa (xs := [.v false [.mp 0 0 0], .v false [.im 0 _]]) (vs := [(false, [.im 0 _])]) (v := .v false [.im 0 _]) (L_spec_l00Src_pick hx9) (.inl rfl) rfl kF184_121_2 rfl (ppP rfl rfl rfl (ppC rfl pp0)) rfl rfl (pbP rfl rfl pb0) rfl rfl rfl) <| sq z99 (oIAI rfl hx10 sF27 rfl rfl) <| sq z99 (oLd (cs := [.im 2 _]) rfl tF2 rfl rfl) <| sq z99 (oAsI rfl rfl) <| nl) ?_
  refine Unw.seq ?_
  refine Go.ret (Unw.ret ?_)
  cases h
  exact Fin_ret (fin_of rfl rF99 rfl (by kernel_rfl))
theorem L_spec_l16DrawOk {s_0 : S_l00Src} {r : (S_Blade × S_l00Src)} (h : spec_l16DrawOk s_0 = some r) : FL Try.prog cfg 238 [.ptr true [(.imm, .row 1 (List.map (eK .u8) s_0.code)), (.imm, .sc (.int .i64 s_0.at_)), (.imm, .sc (.int .u64 s_0.seed))]] = some ([(true, [.im 0 (.sc (.string r.1.Name)), .im 0 (.sc (.int .i64 r.1.Life)), .im 0 (.sc (.int .i64 r.1.Price)), .im 0 (.sc (.int .i64 r.1.Speed))])], [.ptr true [(.imm, .row 1 (List.map (eK .u8) r.2.code)), (.imm, .sc (.int .i64 r.2.at_)), (.imm, .sc (.int .u64 r.2.seed))]]) := by
  unfold spec_l16DrawOk at h
  refine FL_goS (A := [(0, .v false [.mp 0 0 0])]) (B := [(0, some ⟨0, 0, true, true, false, true, [⟨.imm, 0, 1, .row 1 (List.map (eK .u8) s_0.code)⟩, ⟨.imm, 0, 0, .sc (.int .i64 s_0.at_)⟩, ⟨.imm, 0, 0, .sc (.int .u64 s_0.seed)⟩]⟩)]) (nt := 20) rfl rfl Try.func238 rfl rfl rfl rfl ?_
  refine Go.seq ?_
  refine Go.r0 c238 rfl rfl (sq z238 (oAl rfl tF54 (tkI (tkI (tkI (tkI tk0))))) <| nl) ?_
  refine Unw.seq ?_
  refine Go.seq ?_
  obtain ⟨x6, hx6, h⟩ := bs h
  refine Go.r0 c238 rfl rfl (sq z238 (oMv rfl rfl) <| sq z238 (oBS (es := List.map eS ([(⟨#[102, 105, 110, 101]⟩ : ByteArray), (⟨#[99, 111, 97, 114, 115, 101]⟩ : ByteArray), (⟨#[98, 49]⟩ : ByteArray)] : List ByteArray)) rfl sF296 rfl (ptC rfl (fxI fx0) rfl (ptC rfl (fxI fx0) rfl (ptC rfl (fxI fx0) rfl pt0))) (flat0 rfl fun _ => rfl)) <| sq z238 (oCa (xs := [.v false [.mp 0 0 0], .v false [.own 5 0 0]]) (vs := [(false, [.im 0 _])]) (v := .v false [.im 0 _]) (L_spec_l00Src_text hx6) (.inl rfl) rfl kF239_121_296 rfl (ppP rfl rfl rfl (ppC rfl pp0)) rfl rfl (pbP rfl rfl pb0) rfl rfl rfl) <| sq z238 (oBu (cs := [.im 0 _, .im 0 _, .im 0 _, .im 0 _]) rfl bF54 rfl) <| sq z238 (oAl rfl tF54 (tkI (tkI (tkI (tkI tk0))))) <| sq z238 (oSt tF54 rfl rfl rfl (tkI (tkI (tkI (tkI tk0)))) rfl rfl rfl) <| nl) ?_
  refine Unw.seq ?_
  refine Go.seq ?_
  obtain ⟨x9, hx9, h⟩ := bs h
  refine Go.r1 c238 rfl rfl (st1 := mk [(0, .v false [.mp 0 0 0]), (2, .v false [.mp 2 0 0]), (3, .v false [.mp 3 0 0])] [(0, some ⟨0, 0, true, true, false, true, [⟨.imm, 0, 1, .row 1 (List.map (eK .u8) x6.2.code)⟩, ⟨.imm, 0, 0, .sc (.int .i64 x6.2.at_)⟩, ⟨.imm, 0, 0, .sc (.int .u64 x6.2.seed)⟩]⟩), (2, some ⟨0, 0, false, true, false, true, [⟨.imm, 0, 0, .sc (.string (⟨#[]⟩ : ByteArray))⟩, ⟨.imm, 0, 0, .sc (.int .i64 0)⟩, ⟨.imm, 0, 0, .sc (.int .i64 0)⟩, ⟨.imm, 0, 0, .sc (.int .i64 0)⟩]⟩), (3, some ⟨0, 0, false, true, false, true, [⟨.imm, 0, 0, .sc (.string x6.1)⟩, ⟨.imm, 0, 0, .sc (.int .i64 0)⟩, ⟨.imm, 0, 0, .sc (.int .i64 0)⟩, ⟨.imm, 0, 0, .sc (.int .i64 0)⟩]⟩)]) (by kernel_rfl) (sq z238 (oMv rfl rfl) <| sq z238 (oCa (xs := [.v false [.mp 0 0 0], .v false [.im 0 _]]) (vs := [(false, [.im 0 _])]) (v := .v false [.im 0 _]) (L_spec_l00Src_pick hx9) (.inl rfl) rfl kF184_121_2 rfl (ppP rfl rfl rfl (ppC rfl pp0)) rfl rfl (pbP rfl rfl pb0) rfl rfl rfl) <| sq z238 (oBi rfl rfl rfl rfl) <| sq z238 (oFA (r' := .mp 3 0 1) rfl fF54_1 rfl rfl) <| sq z238 (oSt tF2 rfl rfl rfl (tkI tk0) rfl rfl rfl) <| nl) ?_
  refine Unw.seq ?_
  refine Go.seq ?_
  obtain ⟨x13, hx13, h⟩ := bs h
  refine Go.r1 c238 rfl rfl (st1 := mk [(0, .v false [.mp 0 0 0]), (2, .v false [.mp 2 0 0]), (3, .v false [.mp 3 0 0])] [(0, some ⟨0, 0, true, true, false, true, [⟨.imm, 0, 1, .row 1 (List.map (eK .u8) x9.2.code)⟩, ⟨.imm, 0, 0, .sc (.int .i64 x9.2.at_)⟩, ⟨.imm, 0, 0, .sc (.int .u64 x9.2.seed)⟩]⟩), (2, some ⟨0, 0, false, true, false, true, [⟨.imm, 0, 0, .sc (.string (⟨#[]⟩ : ByteArray))⟩, ⟨.imm, 0, 0, .sc (.int .i64 0)⟩, ⟨.imm, 0, 0, .sc (.int .i64 0)⟩, ⟨.imm, 0, 0, .sc (.int .i64 0)⟩]⟩), (3, some ⟨0, 0, false, true, false, true, [⟨.imm, 0, 0, .sc (.string x6.1)⟩, ⟨.imm, 0, 0, .sc (.int .i64 (w64 (500 + x9.1)))⟩, ⟨.imm, 0, 0, .sc (.int .i64 0)⟩, ⟨.imm, 0, 0, .sc (.int .i64 0)⟩]⟩)]) (by kernel_rfl) (sq z238 (oMv rfl rfl) <| sq z238 (oCa (xs := [.v false [.mp 0 0 0], .v false [.im 0 _]]) (vs := [(false, [.im 0 _])]) (v := .v false [.im 0 _]) (L_spec_l00Src_pick hx13) (.inl rfl) rfl kF184_121_2 rfl (ppP rfl rfl rfl (ppC rfl pp0)) rfl rfl (pbP rfl rfl pb0) rfl rfl rfl) <| sq z238 (oFA (r' := .mp 3 0 2) rfl fF54_2 rfl rfl) <| sq z238 (oSt tF2 rfl rfl rfl (tkI tk0) rfl rfl rfl) <| nl) ?_
  refine Unw.seq ?_
  refine Go.seq ?_
  obtain ⟨x17, hx17, h⟩ := bs h
  refine Go.r1 c238 rfl rfl (st1 := mk [(0, .v false [.mp 0 0 0]), (2, .v false [.mp 2 0 0]), (3, .v false [.mp 3 0 0])] [(0, some ⟨0, 0, true, true, false, true, [⟨.imm, 0, 1, .row 1 (List.map (eK .u8) x13.2.code)⟩, ⟨.imm, 0, 0, .sc (.int .i64 x13.2.at_)⟩, ⟨.imm, 0, 0, .sc (.int .u64 x13.2.seed)⟩]⟩), (2, some ⟨0, 0, false, true, false, true, [⟨.imm, 0, 0, .sc (.string (⟨#[]⟩ : ByteArray))⟩, ⟨.imm, 0, 0, .sc (.int .i64 0)⟩, ⟨.imm, 0, 0, .sc (.int .i64 0)⟩, ⟨.imm, 0, 0, .sc (.int .i64 0)⟩]⟩), (3, some ⟨0, 0, false, true, false, true, [⟨.imm, 0, 0, .sc (.string x6.1)⟩, ⟨.imm, 0, 0, .sc (.int .i64 (w64 (500 + x9.1)))⟩, ⟨.imm, 0, 0, .sc (.int .i64 x13.1)⟩, ⟨.imm, 0, 0, .sc (.int .i64 0)⟩]⟩)]) (by kernel_rfl) (sq z238 (oMv rfl rfl) <| sq z238 (oBS (es := List.map eI ([1, 30, 100, 10000] : List Int)) rfl sF27 rfl (ptC rfl (fxI fx0) rfl (ptC rfl (fxI fx0) rfl (ptC rfl (fxI fx0) rfl (ptC rfl (fxI fx0) rfl pt0)))) (flat0 rfl fun _ => rfl)) <| sq z238 (oCa (xs := [.v false [.mp 0 0 0], .v false [.own 16 0 0]]) (vs := [(false, [.im 0 _])]) (v := .v false [.im 0 _]) (L_spec_l00Src_among hx17) (.inl rfl) rfl kF99_121_27 rfl (ppP rfl rfl rfl (ppC rfl pp0)) rfl rfl (pbP rfl rfl pb0) rfl rfl rfl) <| sq z238 (oFA (r' := .mp 3 0 3) rfl fF54_3 rfl rfl) <| sq z238 (oSt tF2 rfl rfl rfl (tkI tk0) rfl rfl rfl) <| nl) ?_
  refine Unw.seq ?_
  refine Go.seq ?_
  refine Go.r1 c238 rfl rfl (st1 := mk [(2, .v false [.mp 2 0 0]), (3, .v false [.mp 3 0 0])] [(0, some ⟨0, 0, true, true, false, true, [⟨.imm, 0, 1, .row 1 (List.map (eK .u8) x17.2.code)⟩, ⟨.imm, 0, 0, .sc (.int .i64 x17.2.at_)⟩, ⟨.imm, 0, 0, .sc (.int .u64 x17.2.seed)⟩]⟩), (2, some ⟨0, 0, false, true, false, true, [⟨.imm, 0, 0, .sc (.string (⟨#[]⟩ : ByteArray))⟩, ⟨.imm, 0, 0, .sc (.int .i64 0)⟩, ⟨.imm, 0, 0, .sc (.int .i64 0)⟩, ⟨.imm, 0, 0, .sc (.int .i64 0)⟩]⟩), (3, some ⟨0, 0, false, true, false, true, [⟨.imm, 0, 0, .sc (.string x6.1)⟩, ⟨.imm, 0, 0, .sc (.int .i64 (w64 (500 + x9.1)))⟩, ⟨.imm, 0, 0, .sc (.int .i64 x13.1)⟩, ⟨.imm, 0, 0, .sc (.int .i64 x17.1)⟩]⟩)]) (by kernel_rfl) (sq z238 (oLd (cs := [.im 0 _, .im 0 _, .im 0 _, .im 0 _]) rfl tF54 rfl rfl) <| sq z238 (oSt tF54 rfl rfl rfl (tkI (tkI (tkI (tkI tk0)))) rfl rfl rfl) <| nl) ?_
  refine Unw.seq ?_
  refine Go.ret (Unw.ret ?_)
  cases h
  exact Fin_ret (fin_of rfl rF238 rfl (by kernel_rfl))
theorem L_spec_l16Draw {s_0 : S_l00Src} {r : (S_Blade × S_l00Src)} (h : spec_l16Draw s_0 = some r) : FL Try.prog cfg 167 [.ptr true [(.imm, .row 1 (List.map (eK .u8) s_0.code)), (.imm, .sc (.int .i64 s_0.at_)), (.imm, .sc (.int .u64 s_0.seed))]] = some ([(true, [.im 0 (.sc (.string r.1.Name)), .im 0 (.sc (.int .i64 r.1.Life)), .im 0 (.sc (.int .i64 r.1.Price)), .im 0 (.sc (.int .i64 r.1.Speed))])], [.ptr true [(.imm, .row 1 (List.map (eK .u8) r.2.code)), (.imm, .sc (.int .i64 r.2.at_)), (.imm, .sc (.int .u64 r.2.seed))]]) := by
  unfold spec_l16Draw at h
  refine FL_goS (A := [(0, .v false [.mp 0 0 0])]) (B := [(0, some ⟨0, 0, true, true, false, true, [⟨.imm, 0, 1, .row 1 (List.map (eK .u8) s_0.code)⟩, ⟨.imm, 0, 0, .sc (.int .i64 s_0.at_)⟩, ⟨.imm, 0, 0, .sc (.int .u64 s_0.seed)⟩]⟩)]) (nt := 33) rfl rfl Try.func167 rfl rfl rfl rfl ?_
  refine Go.seq ?_
  refine Go.r0 c167 rfl rfl (sq z167 (oAl rfl tF54 (tkI (tkI (tkI (tkI tk0))))) <| nl) ?_
  refine Unw.seq ?_
  refine Go.seq ?_
  obtain ⟨x5, hx5, h⟩ := bs h
  refine Go.r0 c167 rfl rfl (sq z167 (oMv rfl rfl) <| sq z167 (oCa (xs := [.v false [.mp 0 0 0]]) (vs := [(true, [.im 0 _, .im 0 _, .im 0 _, .im 0 _])]) (v := .v true [.im 0 _, .im 0 _, .im 0 _, .im 0 _]) (L_spec_l16DrawOk hx5) (.inl rfl) rfl kF238_121 rfl (ppP rfl rfl rfl pp0) rfl rfl (pbP rfl rfl pb0) rfl rfl rfl) <| sq z167 (oAl rfl tF54 (tkI (tkI (tkI (tkI tk0))))) <| sq z167 (oSt tF54 rfl rfl rfl (tkI (tkI (tkI (tkI tk0)))) rfl rfl rfl) <| nl) ?_
  refine Unw.seq ?_
  refine Go.seq ?_
  refine Go.seq ?_
  obtain ⟨x7, hx7, h⟩ := bs h
  refine Go.r1 c167 rfl rfl (st1 := mk [(0, .v false [.mp 0 0 0]), (2, .v false [.mp 2 0 0]), (3, .v false [.mp 3 0 0])] [(0, some ⟨0, 0, true, true, false, true, [⟨.imm, 0, 1, .row 1 (List.map (eK .u8) x5.2.code)⟩, ⟨.imm, 0, 0, .sc (.int .i64 x5.2.at_)⟩, ⟨.imm, 0, 0, .sc (.int .u64 x5.2.seed)⟩]⟩), (2, some ⟨0, 0, false, true, false, true, [⟨.imm, 0, 0, .sc (.string (⟨#[]⟩ : ByteArray))⟩, ⟨.imm, 0, 0, .sc (.int .i64 0)⟩, ⟨.imm, 0, 0, .sc (.int .i64 0)⟩, ⟨.imm, 0, 0, .sc (.int .i64 0)⟩]⟩), (3, some ⟨0, 0, false, true, false, true, [⟨.imm, 0, 0, .sc (.string x5.1.Name)⟩, ⟨.imm, 0, 0, .sc (.int .i64 x5.1.Life)⟩, ⟨.imm, 0, 0, .sc (.int .i64 x5.1.Price)⟩, ⟨.imm, 0, 0, .sc (.int .i64 x5.1.Speed)⟩]⟩)]) (by kernel_rfl) (sq z167 (oMv rfl rfl) <| sq z167 (oCa (xs := [.v false [.mp 0 0 0], .v false [.im 0 _]]) (vs := [(false, [.im 0 _])]) (v := .v false [.im 0 _]) (L_spec_l00Src_pick hx7) (.inl rfl) rfl kF184_121_2 rfl (ppP rfl rfl rfl (ppC rfl pp0)) rfl rfl (pbP rfl rfl pb0) rfl rfl rfl) <| nl) ?_
  refine Unw.seq ?_
  refine Go.join (fun st => ∃ s_o0_0_r11, ∃ s_o0_1_r11, ∃ s_o0_2_r11, ∃ b_o3_0_r11, ∃ b_o3_1_r11, ∃ b_o3_2_r11, ∃ b_o3_3_r11, spec_l16Draw_k11 s_o0_0_r11 s_o0_1_r11 s_o0_2_r11 b_o3_0_r11 b_o3_1_r11 b_o3_2_r11 b_o3_3_r11 = some r ∧ st.norm ([2, 3], [0, 2, 3]) = mk [(2, .v false [.mp 2 0 0]), (3, .v false [.mp 3 0 0])] [(0, some ⟨0, 0, true, true, false, true, [⟨.imm, 0, 1, .row 1 (List.map (eK .u8) s_o0_0_r11)⟩, ⟨.imm, 0, 0, .sc (.int .i64 s_o0_1_r11)⟩, ⟨.imm, 0, 0, .sc (.int .u64 s_o0_2_r11)⟩]⟩), (2, some ⟨0, 0, false, true, false, true, [⟨.imm, 0, 0, .sc (.string (⟨#[]⟩ : ByteArray))⟩, ⟨.imm, 0, 0, .sc (.int .i64 0)⟩, ⟨.imm, 0, 0, .sc (.int .i64 0)⟩, ⟨.imm, 0, 0, .sc (.int .i64 0)⟩]⟩), (3, some ⟨0, 0, false, true, false, true, [⟨.imm, 0, 0, .sc (.string b_o3_0_r11)⟩, ⟨.imm, 0, 0, .sc (.int .i64 b_o3_1_r11)⟩, ⟨.imm, 0, 0, .sc (.int .i64 b_o3_2_r11)⟩, ⟨.imm, 0, 0, .sc (.int .i64 b_o3_3_r11)⟩]⟩)]) ?_ ?_
  · rintro st ⟨s_o0_0_r11, s_o0_1_r11, s_o0_2_r11, b_o3_0_r11, b_o3_1_r11, b_o3_2_r11, b_o3_3_r11, h, hst⟩
    unfold spec_l16Draw_k11 at h
    refine Unw.seq ?_
    refine Go.seq ?_
    refine Go.r1 c167 rfl rfl hst (sq z167 (oLd (cs := [.im 0 _, .im 0 _, .im 0 _, .im 0 _]) rfl tF54 rfl rfl) <| sq z167 (oSt tF54 rfl rfl rfl (tkI (tkI (tkI (tkI tk0)))) rfl rfl rfl) <| nl) ?_
    refine Unw.seq ?_
    refine Go.ret (Unw.ret ?_)
    cases h
    exact Fin_ret (fin_of rfl rF167 rfl (by kernel_rfl))
  · intro K5
    refine Go.block ?_
    refine Go.seq ?_
    refine Go.r1 c167 rfl rfl (st1 := mk [(0, .v false [.mp 0 0 0]), (2, .v false [.mp 2 0 0]), (3, .v false [.mp 3 0 0]), (7, iv x7.1)] [(0, some ⟨0, 0, true, true, false, true, [⟨.imm, 0, 1, .row 1 (List.map (eK .u8) x7.2.code)⟩, ⟨.imm, 0, 0, .sc (.int .i64 x7.2.at_)⟩, ⟨.imm, 0, 0, .sc (.int .u64 x7.2.seed)⟩]⟩), (2, some ⟨0, 0, false, true, false, true, [⟨.imm, 0, 0, .sc (.string (⟨#[]⟩ : ByteArray))⟩, ⟨.imm, 0, 0, .sc (.int .i64 0)⟩, ⟨.imm, 0, 0, .sc (.int .i64 0)⟩, ⟨.imm, 0, 0, .sc (.int .i64 0)⟩]⟩), (3, some ⟨0, 0, false, true, false, true, [⟨.imm, 0, 0, .sc (.string x5.1.Name)⟩, ⟨.imm, 0, 0, .sc (.int .i64 x5.1.Life)⟩, ⟨.imm, 0, 0, .sc (.int .i64 x5.1.Price)⟩, ⟨.imm, 0, 0, .sc (.int .i64 x5.1.Speed)⟩]⟩)]) (by kernel_rfl) (sq z167 (oBi rfl rfl rfl rfl) <| sq z167 (oAsI rfl rfl) <| nl) ?_
    refine Unw.seq ?_
    by_cases hc6 : x7.1 = 0
    · rw [if_pos hc6] at h
      refine Go.condT rfl (iEq.2 hc6) ?_
      obtain ⟨x12, hx12, h⟩ := bs h
      refine Go.r0 c167 rfl rfl (sq z167 (oMv rfl rfl) <| sq z167 (oBS (es := List.map eI ([0, 1, 1000000, 1000001] : List Int)) rfl sF27 rfl (ptC rfl (fxI fx0) rfl (ptC rfl (fxI fx0) rfl (ptC rfl (fxI fx0) rfl (ptC rfl (fxI fx0) rfl pt0)))) (flat0 rfl fun _ => rfl)) <| sq z167 (oCa (xs := [.v false [.mp 0 0 0], .v false [.own 11 0 0]]) (vs := [(false, [.im 0 _])]) (v := .v false [.im 0 _]) (L_spec_l00Src_among hx12) (.inl rfl) rfl kF99_121_27 rfl (ppP rfl rfl rfl (ppC rfl pp0)) rfl rfl (pbP rfl rfl pb0) rfl rfl rfl) <| sq z167 (oFA (r' := .mp 3 0 1) rfl fF54_1 rfl rfl) <| sq z167 (oSt tF2 rfl rfl rfl (tkI tk0) rfl rfl rfl) <| nl) ?_
      refine Unw.blk ?_
      exact K5 _ ⟨x12.2.code, x12.2.at_, x12.2.seed, x5.1.Name, x12.1, x5.1.Price, x5.1.Speed, h, (by kernel_rfl)⟩
    · rw [if_neg hc6] at h
      refine Go.condF rfl (byF iEq hc6) ?_
      refine Go.seq ?_
      refine Go.r0 c167 rfl rfl (sq z167 (oBi rfl rfl rfl rfl) <| sq z167 (oAsI rfl rfl) <| nl) ?_
      refine Unw.seq ?_
      by_cases hc7 : x7.1 = 1
      · rw [if_pos hc7] at h
        refine Go.condT rfl (iEq.2 hc7) ?_
        obtain ⟨x18, hx18, h⟩ := bs h
        refine Go.r0 c167 rfl rfl (sq z167 (oMv rfl rfl) <| sq z167 (oBS (es := List.map eI ([(-1), 1000001] : List Int)) rfl sF27 rfl (ptC rfl (fxI fx0) rfl (ptC rfl (fxI fx0) rfl pt0)) (flat0 rfl fun _ => rfl)) <| sq z167 (oCa (xs := [.v false [.mp 0 0 0], .v false [.own 17 0 0]]) (vs := [(false, [.im 0 _])]) (v := .v false [.im 0 _]) (L_spec_l00Src_among hx18) (.inl rfl) rfl kF99_121_27 rfl (ppP rfl rfl rfl (ppC rfl pp0)) rfl rfl (pbP rfl rfl pb0) rfl rfl rfl) <| sq z167 (oFA (r' := .mp 3 0 2) rfl fF54_2 rfl rfl) <| sq z167 (oSt tF2 rfl rfl rfl (tkI tk0) rfl rfl rfl) <| nl) ?_
        refine Unw.blk ?_
        exact K5 _ ⟨x18.2.code, x18.2.at_, x18.2.seed, x5.1.Name, x5.1.Life, x18.1, x5.1.Speed, h, (by kernel_rfl)⟩
      · rw [if_neg hc7] at h
        refine Go.condF rfl (byF iEq hc7) ?_
        refine Go.seq ?_
        refine Go.r0 c167 rfl rfl (sq z167 (oBi rfl rfl rfl rfl) <| sq z167 (oAsI rfl rfl) <| nl) ?_
        refine Unw.seq ?_
        by_cases hc8 : x7.1 = 2
        · rw [if_pos hc8] at h
          refine Go.condT rfl (iEq.2 hc8) ?_
          obtain ⟨x24, hx24, h⟩ := bs h
          refine Go.r0 c167 rfl rfl (sq z167 (oMv rfl rfl) <| sq z167 (oBS (es := List.map eI ([0, 10001] : List Int)) rfl sF27 rfl (ptC rfl (fxI fx0) rfl (ptC rfl (fxI fx0) rfl pt0)) (flat0 rfl fun _ => rfl)) <| sq z167 (oCa (xs := [.v false [.mp 0 0 0], .v false [.own 23 0 0]]) (vs := [(false, [.im 0 _])]) (v := .v false [.im 0 _]) (L_spec_l00Src_among hx24) (.inl rfl) rfl kF99_121_27 rfl (ppP rfl rfl rfl (ppC rfl pp0)) rfl rfl (pbP rfl rfl pb0) rfl rfl rfl) <| sq z167 (oFA (r' := .mp 3 0 3) rfl fF54_3 rfl rfl) <| sq z167 (oSt tF2 rfl rfl rfl (tkI tk0) rfl rfl rfl) <| nl) ?_
          refine Unw.blk ?_
          exact K5 _ ⟨x24.2.code, x24.2.at_, x24.2.seed, x5.1.Name, x5.1.Life, x5.1.Price, x24.1, h, (by kernel_rfl)⟩
        · rw [if_neg hc8] at h
          refine Go.condF rfl (byF iEq hc8) ?_
          refine Go.seq ?_
          refine Go.r0 c167 rfl rfl (sq z167 (oBi rfl rfl rfl rfl) <| sq z167 (oAsI rfl rfl) <| nl) ?_
          refine Unw.seq ?_
          by_cases hc9 : x7.1 = 3
          · rw [if_pos hc9] at h
            refine Go.condT rfl (iEq.2 hc9) ?_
            obtain ⟨x30, hx30, h⟩ := bs h
            refine Go.r0 c167 rfl rfl (sq z167 (oMv rfl rfl) <| sq z167 (oBS (es := List.map eS ([(⟨#[]⟩ : ByteArray), (⟨#[66]⟩ : ByteArray)] : List ByteArray)) rfl sF296 rfl (ptC rfl (fxI fx0) rfl (ptC rfl (fxI fx0) rfl pt0)) (flat0 rfl fun _ => rfl)) <| sq z167 (oCa (xs := [.v false [.mp 0 0 0], .v false [.own 29 0 0]]) (vs := [(false, [.im 0 _])]) (v := .v false [.im 0 _]) (L_spec_l00Src_text hx30) (.inl rfl) rfl kF239_121_296 rfl (ppP rfl rfl rfl (ppC rfl pp0)) rfl rfl (pbP rfl rfl pb0) rfl rfl rfl) <| sq z167 (oFA (r' := .mp 3 0 0) rfl fF54_0 rfl rfl) <| sq z167 (oSt tF9 rfl rfl rfl (tkI tk0) rfl rfl rfl) <| nl) ?_
            refine Unw.blk ?_
            exact K5 _ ⟨x30.2.code, x30.2.at_, x30.2.seed, x30.1, x5.1.Life, x5.1.Price, x5.1.Speed, h, (by kernel_rfl)⟩
          · rw [if_neg hc9] at h
            refine Go.condF rfl (byF iEq hc9) ?_
            refine Go.skip ?_
            refine Unw.blk ?_
            exact K5 _ ⟨x7.2.code, x7.2.at_, x7.2.seed, x5.1.Name, x5.1.Life, x5.1.Price, x5.1.Speed, h, (by kernel_rfl)⟩
theorem L_spec_l00Src_one {s_0 : S_l00Src} {n_1 : Int} {r : (Bool × S_l00Src)} (h : spec_l00Src_one s_0 n_1 = some r) : FL Try.prog cfg 183 [.ptr true [(.imm, .row 1 (List.map (eK .u8) s_0.code)), (.imm, .sc (.int .i64 s_0.at_)), (.imm, .sc (.int .u64 s_0.seed))], .im 2 false [.sc (.int .i64 n_1)]] = some ([(false, [.im 0 (.sc (.bool r.1))])], [.ptr true [(.imm, .row 1 (List.map (eK .u8) r.2.code)), (.imm, .sc (.int .i64 r.2.at_)), (.imm, .sc (.int .u64 r.2.seed))]]) := by
  unfold spec_l00Src_one at h
  refine FL_goS (A := [(0, .v false [.mp 0 0 0]), (1, .v false [.im 2 (.sc (.int .i64 n_1))])]) (B := [(0, some ⟨0, 0, true, true, false, true, [⟨.imm, 0, 1, .row 1 (List.map (eK .u8) s_0.code)⟩, ⟨.imm, 0, 0, .sc (.int .i64 s_0.at_)⟩, ⟨.imm, 0, 0, .sc (.int .u64 s_0.seed)⟩]⟩), (1, none)]) (nt := 9) rfl rfl Try.func183 rfl rfl rfl rfl ?_
  refine Go.seq ?_
  refine Go.r0 c183 rfl rfl (sq z183 (oAsI rfl rfl) <| nl) ?_
  refine Unw.seq ?_
  refine Go.seq ?_
  obtain ⟨x7, hx7, h⟩ := bs h
  refine Go.r0 c183 rfl rfl (sq z183 (oMv rfl rfl) <| sq z183 (oMv rfl rfl) <| sq z183 (oCa (xs := [.v false [.mp 0 0 0], .v false [.im 2 _]]) (vs := [(false, [.im 0 _])]) (v := .v false [.im 0 _]) (L_spec_l00Src_pick hx7) (.inl rfl) rfl kF184_121_2 rfl (ppP rfl rfl rfl (ppC rfl pp0)) rfl rfl (pbP rfl rfl pb0) rfl rfl rfl) <| sq z183 (oBi rfl rfl rfl rfl) <| sq z183 (oAsI rfl rfl) <| nl) ?_
  refine Unw.seq ?_
  refine Go.ret (Unw.ret ?_)
  cases h
  exact Fin_ret (fin_of rfl rF183 rfl (by kernel_rfl))
theorem L_spec_l16DrawCutting {s_0 : S_l00Src} {name_1 : ByteArray} {r : (S_Cutting × S_l00Src)} (h : spec_l16DrawCutting s_0 name_1 = some r) : FL Try.prog cfg 240 [.ptr true [(.imm, .row 1 (List.map (eK .u8) s_0.code)), (.imm, .sc (.int .i64 s_0.at_)), (.imm, .sc (.int .u64 s_0.seed))], .im 2 false [.sc (.string name_1)]] = some ([(true, [.im 0 (.sc (.string r.1.Name)), .im 0 (.sc (.int .i64 r.1.Length)), .im 0 (.sc (.int .i64 r.1.Hardness))])], [.ptr true [(.imm, .row 1 (List.map (eK .u8) r.2.code)), (.imm, .sc (.int .i64 r.2.at_)), (.imm, .sc (.int .u64 r.2.seed))]]) := by
  unfold spec_l16DrawCutting at h
  refine FL_goS (A := [(0, .v false [.mp 0 0 0]), (1, .v false [.im 2 (.sc (.string name_1))])]) (B := [(0, some ⟨0, 0, true, true, false, true, [⟨.imm, 0, 1, .row 1 (List.map (eK .u8) s_0.code)⟩, ⟨.imm, 0, 0, .sc (.int .i64 s_0.at_)⟩, ⟨.imm, 0, 0, .sc (.int .u64 s_0.seed)⟩]⟩), (1, none)]) (nt := 16) rfl rfl Try.func240 rfl rfl rfl rfl ?_
  refine Go.seq ?_
  refine Go.r0 c240 rfl rfl (sq z240 (oAl rfl tF163 (tkI (tkI (tkI tk0)))) <| nl) ?_
  refine Unw.seq ?_
  refine Go.seq ?_
  obtain ⟨x8, hx8, h⟩ := bs h
  refine Go.r0 c240 rfl rfl (sq z240 (oMv rfl rfl) <| sq z240 (oMv rfl rfl) <| sq z240 (oCa (xs := [.v false [.mp 0 0 0], .v false [.im 0 _]]) (vs := [(false, [.im 0 _])]) (v := .v false [.im 0 _]) (L_spec_l00Src_pick hx8) (.inl rfl) rfl kF184_121_2 rfl (ppP rfl rfl rfl (ppC rfl pp0)) rfl rfl (pbP rfl rfl pb0) rfl rfl rfl) <| sq z240 (oBi rfl rfl rfl rfl) <| sq z240 (oBu (cs := [.im 2 _, .im 0 _, .im 0 _]) rfl bF163 rfl) <| sq z240 (oAl rfl tF163 (tkI (tkI (tkI tk0)))) <| sq z240 (oSt tF163 rfl rfl rfl (tkI (tkI (tkI tk0))) rfl rfl rfl) <| nl) ?_
  refine Unw.seq ?_
  refine Go.seq ?_
  obtain ⟨x13, hx13, h⟩ := bs h
  refine Go.r1 c240 rfl rfl (st1 := mk [(0, .v false [.mp 0 0 0]), (4, .v false [.mp 4 0 0]), (5, .v false [.mp 5 0 0])] [(0, some ⟨0, 0, true, true, false, true, [⟨.imm, 0, 1, .row 1 (List.map (eK .u8) x8.2.code)⟩, ⟨.imm, 0, 0, .sc (.int .i64 x8.2.at_)⟩, ⟨.imm, 0, 0, .sc (.int .u64 x8.2.seed)⟩]⟩), (4, some ⟨0, 0, false, true, false, true, [⟨.imm, 0, 0, .sc (.string (⟨#[]⟩ : ByteArray))⟩, ⟨.imm, 0, 0, .sc (.int .i64 0)⟩, ⟨.imm, 0, 0, .sc (.int .i64 0)⟩]⟩), (5, some ⟨0, 0, false, true, false, true, [⟨.imm, 0, 0, .sc (.string name_1)⟩, ⟨.imm, 0, 0, .sc (.int .i64 (w64 (1 + x8.1)))⟩, ⟨.imm, 0, 0, .sc (.int .i64 0)⟩]⟩)]) (by kernel_rfl) (sq z240 (oMv rfl rfl) <| sq z240 (oBS (es := List.map eI ([40, 33, 60, 85, 1, 100] : List Int)) rfl sF27 rfl (ptC rfl (fxI fx0) rfl (ptC rfl (fxI fx0) rfl (ptC rfl (fxI fx0) rfl (ptC rfl (fxI fx0) rfl (ptC rfl (fxI fx0) rfl (ptC rfl (fxI fx0) rfl pt0)))))) (flat0 rfl fun _ => rfl)) <| sq z240 (oCa (xs := [.v false [.mp 0 0 0], .v false [.own 12 0 0]]) (vs := [(false, [.im 0 _])]) (v := .v false [.im 0 _]) (L_spec_l00Src_among hx13) (.inl rfl) rfl kF99_121_27 rfl (ppP rfl rfl rfl (ppC rfl pp0)) rfl rfl (pbP rfl rfl pb0) rfl rfl rfl) <| sq z240 (oFA (r' := .mp 5 0 2) rfl fF163_2 rfl rfl) <| sq z240 (oSt tF2 rfl rfl rfl (tkI tk0) rfl rfl rfl) <| nl) ?_
  refine Unw.seq ?_
  refine Go.seq ?_
  refine Go.r1 c240 rfl rfl (st1 := mk [(4, .v false [.mp 4 0 0]), (5, .v false [.mp 5 0 0])] [(0, some ⟨0, 0, true, true, false, true, [⟨.imm, 0, 1, .row 1 (List.map (eK .u8) x13.2.code)⟩, ⟨.imm, 0, 0, .sc (.int .i64 x13.2.at_)⟩, ⟨.imm, 0, 0, .sc (.int .u64 x13.2.seed)⟩]⟩), (4, some ⟨0, 0, false, true, false, true, [⟨.imm, 0, 0, .sc (.string (⟨#[]⟩ : ByteArray))⟩, ⟨.imm, 0, 0, .sc (.int .i64 0)⟩, ⟨.imm, 0, 0, .sc (.int .i64 0)⟩]⟩), (5, some ⟨0, 0, false, true, false, true, [⟨.imm, 0, 0, .sc (.string name_1)⟩, ⟨.imm, 0, 0, .sc (.int .i64 (w64 (1 + x8.1)))⟩, ⟨.imm, 0, 0, .sc (.int .i64 x13.1)⟩]⟩)]) (by kernel_rfl) (sq z240 (oLd (cs := [.im 0 _, .im 0 _, .im 0 _]) rfl tF163 rfl rfl) <| sq z240 (oSt tF163 rfl rfl rfl (tkI (tkI (tkI tk0))) rfl rfl rfl) <| nl) ?_
  refine Unw.seq ?_
  refine Go.ret (Unw.ret ?_)
  cases h
  exact Fin_ret (fin_of rfl rF240 rfl (by kernel_rfl))
theorem L_spec_l16DrawList {s_0 : S_l00Src} {r : ((List S_Cutting) × S_l00Src)} (h : spec_l16DrawList s_0 = some r) : FL Try.prog cfg 168 [.ptr true [(.imm, .row 1 (List.map (eK .u8) s_0.code)), (.imm, .sc (.int .i64 s_0.at_)), (.imm, .sc (.int .u64 s_0.seed))]] = some ([(false, [.ow 0 3 (List.map e_S_Cutting r.1)])], [.ptr true [(.imm, .row 1 (List.map (eK .u8) r.2.code)), (.imm, .sc (.int .i64 r.2.at_)), (.imm, .sc (.int .u64 r.2.seed))]]) := by
  unfold spec_l16DrawList at h
  refine FL_goS (A := [(0, .v false [.mp 0 0 0])]) (B := [(0, some ⟨0, 0, true, true, false, true, [⟨.imm, 0, 1, .row 1 (List.map (eK .u8) s_0.code)⟩, ⟨.imm, 0, 0, .sc (.int .i64 s_0.at_)⟩, ⟨.imm, 0, 0, .sc (.int .u64 s_0.seed)⟩]⟩)]) (nt := 66) rfl rfl Try.func168 rfl rfl rfl rfl ?_
  refine Go.seq ?_
  refine Go.r0 c168 rfl rfl (sq z168 (oAsN rfl rfl eF56) <| nl) ?_
  refine Unw.seq ?_
  refine Go.seq ?_
  refine Go.r0 c168 rfl rfl (sq z168 (oBS (es := List.map eS ([(⟨#[97]⟩ : ByteArray), (⟨#[98]⟩ : ByteArray), (⟨#[99]⟩ : ByteArray), (⟨#[100]⟩ : ByteArray), (⟨#[101]⟩ : ByteArray), (⟨#[102]⟩ : ByteArray), (⟨#[103]⟩ : ByteArray)] : List ByteArray)) rfl sF296 rfl (ptC rfl (fxI fx0) rfl (ptC rfl (fxI fx0) rfl (ptC rfl (fxI fx0) rfl (ptC rfl (fxI fx0) rfl (ptC rfl (fxI fx0) rfl (ptC rfl (fxI fx0) rfl (ptC rfl (fxI fx0) rfl pt0))))))) (flat0 rfl fun _ => rfl)) <| sq z168 (oAsO rfl rfl rfl rfl rfl) <| nl) ?_
  refine Unw.seq ?_
  refine Go.seq ?_
  refine Go.r0 c168 rfl rfl (sq z168 (oBS (es := List.map e_S_Cutting ([] : List S_Cutting)) rfl sF56 rfl pt0 (flat0 rfl fun _ => rfl)) <| sq z168 (oAsO rfl rfl rfl rfl rfl) <| nl) ?_
  refine Unw.seq ?_
  refine Go.seq ?_
  refine Go.seq ?_
  refine Go.r0 c168 rfl rfl (sq z168 (oAsI rfl rfl) <| nl) ?_
  refine Unw.seq ?_
  refine Go.block ?_
  obtain ⟨o, hl, h⟩ := bs h
  refine Go.lp c168 rfl _ (fun (s : (Int × (List Int) × Int × Int × (List S_Cutting))) => match s with | (k_5_l4, s_o0_0_l4, s_o0_1_l4, s_o0_2_l4, out_o4_l4) => mk [(0, .v false [.mp 0 0 0]), (3, .v false [.own 3 0 0]), (4, .v false [.own 4 0 0]), (5, iv k_5_l4)] [(0, some ⟨0, 0, true, true, false, true, [⟨.imm, 0, 1, .row 1 (List.map (eK .u8) s_o0_0_l4)⟩, ⟨.imm, 0, 0, .sc (.int .i64 s_o0_1_l4)⟩, ⟨.imm, 0, 0, .sc (.int .u64 s_o0_2_l4)⟩]⟩), (3, some ⟨0, 0, false, false, false, false, [⟨.sh, 0, 0, .row 1 (List.map eS ([(⟨#[97]⟩ : ByteArray), (⟨#[98]⟩ : ByteArray), (⟨#[99]⟩ : ByteArray), (⟨#[100]⟩ : ByteArray), (⟨#[101]⟩ : ByteArray), (⟨#[102]⟩ : ByteArray), (⟨#[103]⟩ : ByteArray)] : List ByteArray))⟩]⟩), (4, some ⟨0, 0, false, false, false, false, [⟨.sh, 0, 0, .row 3 (List.map e_S_Cutting out_o4_l4)⟩]⟩)]) (fun (o : ((List Int) × Int × Int × (List S_Cutting))) (p : Ex × St) => match o with | (s_o0_0_e0_4, s_o0_1_e0_4, s_o0_2_e0_4, out_o4_e0_4) => p.1 = .exit 0 ∧ p.2.norm ([0, 4], [0, 4]) = mk [(0, .v false [.mp 0 0 0]), (4, .v false [.own 4 0 0])] [(0, some ⟨0, 0, true, true, false, true, [⟨.imm, 0, 1, .row 1 (List.map (eK .u8) s_o0_0_e0_4)⟩, ⟨.imm, 0, 0, .sc (.int .i64 s_o0_1_e0_4)⟩, ⟨.imm, 0, 0, .sc (.int .u64 s_o0_2_e0_4)⟩]⟩), (4, some ⟨0, 0, false, false, false, false, [⟨.sh, 0, 0, .row 3 (List.map e_S_Cutting out_o4_e0_4)⟩]⟩)]) hl (by kernel_rfl) ?_ ?_ ?_
  · intro o p hp e
    obtain ⟨s_o0_0_e0_4, s_o0_1_e0_4, s_o0_2_e0_4, out_o4_e0_4⟩ := o
    exact nomatch (hp.1.symm.trans e)
  · rintro ⟨k_5_l4, s_o0_0_l4, s_o0_1_l4, s_o0_2_l4, out_o4_l4⟩ o h
    unfold spec_l16DrawList_l4 at h
    dsimp only at h
    refine Go.seq ?_
    refine Go.seq ?_
    refine Go.r0 c168 rfl rfl (sq z168 (oMv rfl rfl) <| sq z168 (oMv rfl rfl) <| sq z168 (oLnO rfl rfl uF296 rfl rfl rfl (fun e => nomatch e)) <| sq z168 (oBi rfl rfl rfl rfl) <| nl) ?_
    refine Unw.seq ?_
    by_cases hc17 : k_5_l4 < (([(⟨#[97]⟩ : ByteArray), (⟨#[98]⟩ : ByteArray), (⟨#[99]⟩ : ByteArray), (⟨#[100]⟩ : ByteArray), (⟨#[101]⟩ : ByteArray), (⟨#[102]⟩ : ByteArray), (⟨#[103]⟩ : ByteArray)] : List ByteArray).length : Int)
    · rw [if_pos hc17] at h
      refine Go.condT rfl (iDec.2 hc17) ?_
      refine Go.skip ?_
      refine Unw.seq ?_
      refine Go.seq ?_
      refine Go.join (fun st => ∃ s_o0_0_r5, ∃ s_o0_1_r5, ∃ s_o0_2_r5, ∃ out_o4_r5, spec_l16DrawList_k5 k_5_l4 s_o0_0_r5 s_o0_1_r5 s_o0_2_r5 out_o4_r5 = some o ∧ st.norm ([0, 3, 4, 5], [0, 3, 4]) = mk [(0, .v false [.mp 0 0 0]), (3, .v false [.own 3 0 0]), (4, .v false [.own 4 0 0]), (5, iv k_5_l4)] [(0, some ⟨0, 0, true, true, false, true, [⟨.imm, 0, 1, .row 1 (List.map (eK .u8) s_o0_0_r5)⟩, ⟨.imm, 0, 0, .sc (.int .i64 s_o0_1_r5)⟩, ⟨.imm, 0, 0, .sc (.int .u64 s_o0_2_r5)⟩]⟩), (3, some ⟨0, 0, false, false, false, false, [⟨.sh, 0, 0, .row 1 (List.map eS ([(⟨#[97]⟩ : ByteArray), (⟨#[98]⟩ : ByteArray), (⟨#[99]⟩ : ByteArray), (⟨#[100]⟩ : ByteArray), (⟨#[101]⟩ : ByteArray), (⟨#[102]⟩ : ByteArray), (⟨#[103]⟩ : ByteArray)] : List ByteArray))⟩]⟩), (4, some ⟨0, 0, false, false, false, false, [⟨.sh, 0, 0, .row 3 (List.map e_S_Cutting out_o4_r5)⟩]⟩)]) ?_ ?_
      · rintro st ⟨s_o0_0_r5, s_o0_1_r5, s_o0_2_r5, out_o4_r5, h, hst⟩
        unfold spec_l16DrawList_k5 at h
        refine Unw.seq ?_
        refine Go.r1 c168 rfl rfl hst (sq z168 (oMv rfl rfl) <| sq z168 (oBi rfl rfl rfl rfl) <| sq z168 (oAsI rfl rfl) <| nl) ?_
        refine Unw.nil ?_
        cases h
        exact ⟨rfl, (by kernel_rfl)⟩
      · intro K19
        refine Go.block ?_
        refine Go.seq ?_
        obtain ⟨x17, hx17, h⟩ := bs h
        refine Go.r0 c168 rfl rfl (sq z168 (oMv rfl rfl) <| sq z168 (oCa (xs := [.v false [.mp 0 0 0], .v false [.im 0 _]]) (vs := [(false, [.im 0 _])]) (v := .v false [.im 0 _]) (L_spec_l00Src_one hx17) (.inl rfl) rfl kF183_121_2 rfl (ppP rfl rfl rfl (ppC rfl pp0)) rfl rfl (pbP rfl rfl pb0) rfl rfl rfl) <| nl) ?_
        refine Unw.seq ?_
        by_cases hc20 : x17.1 = true
        · rw [if_pos hc20] at h
          refine Go.condT rfl (Iff.rfl.2 hc20) ?_
          obtain ⟨x22, hx22, h⟩ := bs h
          obtain ⟨x24, hx24, h⟩ := bs h
          obtain ⟨x26, hx26, h⟩ := bs h
          refine Go.r1 c168 rfl rfl (st1 := mk [(0, .v false [.mp 0 0 0]), (3, .v false [.own 3 0 0]), (4, .v false [.own 4 0 0]), (5, iv k_5_l4)] [(0, some ⟨0, 0, true, true, false, true, [⟨.imm, 0, 1, .row 1 (List.map (eK .u8) x17.2.code)⟩, ⟨.imm, 0, 0, .sc (.int .i64 x17.2.at_)⟩, ⟨.imm, 0, 0, .sc (.int .u64 x17.2.seed)⟩]⟩), (3, some ⟨0, 0, false, false, false, false, [⟨.sh, 0, 0, .row 1 (List.map eS ([(⟨#[97]⟩ : ByteArray), (⟨#[98]⟩ : ByteArray), (⟨#[99]⟩ : ByteArray), (⟨#[100]⟩ : ByteArray), (⟨#[101]⟩ : ByteArray), (⟨#[102]⟩ : ByteArray), (⟨#[103]⟩ : ByteArray)] : List ByteArray))⟩]⟩), (4, some ⟨0, 0, false, false, false, false, [⟨.sh, 0, 0, .row 3 (List.map e_S_Cutting out_o4_l4)⟩]⟩)]) (by kernel_rfl) (sq z168 (oMv rfl rfl) <| sq z168 (oMv rfl rfl) <| sq z168 (oMv rfl rfl) <| sq z168 (oMv rfl rfl) <| sq z168 (oIAO rfl hx22 sF296 rfl rfl rfl rfl) <| sq z168 (oLdE (cs := [.im 0 _]) rfl tF9 rfl rfl rfl (fun e => nomatch e) (rd_get hx22) rfl rfl) <| sq z168 (oCa (xs := [.v false [.mp 0 0 0], .v false [.im 0 _]]) (vs := [(true, [.im 0 _, .im 0 _, .im 0 _])]) (v := .v true [.im 0 _, .im 0 _, .im 0 _]) (L_spec_l16DrawCutting hx24) (.inl rfl) rfl kF240_121_9 rfl (ppP rfl rfl rfl (ppC rfl pp0)) rfl rfl (pbP rfl rfl pb0) rfl rfl rfl) <| sq z168 (oBS (es := List.map e_S_Cutting ([x24.1] : List S_Cutting)) rfl sF56 rfl (ptC rfl (fxI (fxI (fxI fx0))) rfl pt0) (flat0 rfl fun _ => rfl)) <| sq z168 (oApO (en := e_S_Cutting) (M := ([x24.1] : List S_Cutting)) rfl hx26 rfl sF56 rfl rfl uF56 (.inl ⟨_, rfl⟩) rfl rfl rfl rfl (el_own rfl rfl) (flat0 rfl fun _ => rfl)) <| sq z168 (oAsO rfl rfl rfl rfl rfl) <| nl) ?_
          refine Unw.blk ?_
          exact K19 _ ⟨x24.2.code, x24.2.at_, x24.2.seed, x26, h, (by kernel_rfl)⟩
        · rw [if_neg hc20] at h
          refine Go.condF rfl (byF Iff.rfl hc20) ?_
          refine Go.skip ?_
          refine Unw.blk ?_
          exact K19 _ ⟨x17.2.code, x17.2.at_, x17.2.seed, out_o4_l4, h, (by kernel_rfl)⟩
    · rw [if_neg hc17] at h
      refine Go.condF rfl (byF iDec hc17) ?_
      refine Go.exit ?_
      refine Unw.seqx ?_
      refine Unw.nil ?_
      cases h
      exact ⟨rfl, (by kernel_rfl)⟩
  · rintro ⟨e, st⟩ hp
    obtain ⟨s_o0_0_e0_4, s_o0_1_e0_4, s_o0_2_e0_4, out_o4_e0_4⟩ := o
    dsimp only at h
    obtain ⟨he, hst⟩ := hp
    obtain rfl : e = .exit 0 := he
    refine Unw.blkx ?_
    refine Unw.seq ?_
    refine Go.seq ?_
    refine Go.seq ?_
    obtain ⟨x28, hx28, h⟩ := bs h
    refine Go.r1 c168 rfl rfl hst (sq z168 (oMv rfl rfl) <| sq z168 (oCa (xs := [.v false [.mp 0 0 0], .v false [.im 0 _]]) (vs := [(false, [.im 0 _])]) (v := .v false [.im 0 _]) (L_spec_l00Src_pick hx28) (.inl rfl) rfl kF184_121_2 rfl (ppP rfl rfl rfl (ppC rfl pp0)) rfl rfl (pbP rfl rfl pb0) rfl rfl rfl) <| nl) ?_
    refine Unw.seq ?_
    refine Go.join (fun st => ∃ s_o0_0_r20, ∃ s_o0_1_r20, ∃ s_o0_2_r20, ∃ out_o4_r20, spec_l16DrawList_k20 s_o0_0_r20 s_o0_1_r20 s_o0_2_r20 out_o4_r20 = some r ∧ st.norm ([4], [0, 4]) = mk [(4, .v false [.own 4 0 0])] [(0, some ⟨0, 0, true, true, false, true, [⟨.imm, 0, 1, .row 1 (List.map (eK .u8) s_o0_0_r20)⟩, ⟨.imm, 0, 0, .sc (.int .i64 s_o0_1_r20)⟩, ⟨.imm, 0, 0, .sc (.int .u64 s_o0_2_r20)⟩]⟩), (4, some ⟨0, 0, false, false, false, false, [⟨.sh, 0, 0, .row 3 (List.map e_S_Cutting out_o4_r20)⟩]⟩)]) ?_ ?_
    · rintro st ⟨s_o0_0_r20, s_o0_1_r20, s_o0_2_r20, out_o4_r20, h, hst⟩
      unfold spec_l16DrawList_k20 at h
      refine Unw.seq ?_
      refine Go.seq ?_
      refine Go.r1 c168 rfl rfl hst (sq z168 (oMv rfl rfl) <| sq z168 (oAsO rfl rfl rfl rfl rfl) <| nl) ?_
      refine Unw.seq ?_
      refine Go.ret (Unw.ret ?_)
      cases h
      exact Fin_ret (fin_of rfl rF168 rfl (by kernel_rfl))
    · intro K10
      refine Go.block ?_
      refine Go.seq ?_
      refine Go.r1 c168 rfl rfl (st1 := mk [(0, .v false [.mp 0 0 0]), (4, .v false [.own 4 0 0]), (28, iv x28.1)] [(0, some ⟨0, 0, true, true, false, true, [⟨.imm, 0, 1, .row 1 (List.map (eK .u8) x28.2.code)⟩, ⟨.imm, 0, 0, .sc (.int .i64 x28.2.at_)⟩, ⟨.imm, 0, 0, .sc (.int .u64 x28.2.seed)⟩]⟩), (4, some ⟨0, 0, false, false, false, false, [⟨.sh, 0, 0, .row 3 (List.map e_S_Cutting out_o4_e0_4)⟩]⟩)]) (by kernel_rfl) (sq z168 (oBi rfl rfl rfl rfl) <| sq z168 (oAsI rfl rfl) <| nl) ?_
      refine Unw.seq ?_
      by_cases hc11 : x28.1 = 0
      · rw [if_pos hc11] at h
        refine Go.condT rfl (iEq.2 hc11) ?_
        obtain ⟨x34, hx34, h⟩ := bs h
        obtain ⟨x37, hx37, h⟩ := bs h
        refine Go.r0 c168 rfl rfl (sq z168 (oMv rfl rfl) <| sq z168 (oMv rfl rfl) <| sq z168 (oBS (es := List.map eI ([0, 1000000, 1000001] : List Int)) rfl sF27 rfl (ptC rfl (fxI fx0) rfl (ptC rfl (fxI fx0) rfl (ptC rfl (fxI fx0) rfl pt0))) (flat0 rfl fun _ => rfl)) <| sq z168 (oCa (xs := [.v false [.mp 0 0 0], .v false [.own 33 0 0]]) (vs := [(false, [.im 0 _])]) (v := .v false [.im 0 _]) (L_spec_l00Src_among hx34) (.inl rfl) rfl kF99_121_27 rfl (ppP rfl rfl rfl (ppC rfl pp0)) rfl rfl (pbP rfl rfl pb0) rfl rfl rfl) <| sq z168 (oBu (cs := [.im 0 _, .im 0 _, .im 0 _]) rfl bF163 rfl) <| sq z168 (oBS (es := List.map e_S_Cutting ([(⟨(⟨#[122, 122]⟩ : ByteArray), x34.1, 1⟩ : S_Cutting)] : List S_Cutting)) rfl sF56 rfl (ptC rfl (fxI (fxI (fxI fx0))) rfl pt0) (flat0 rfl fun _ => rfl)) <| sq z168 (oApO (en := e_S_Cutting) (M := ([(⟨(⟨#[122, 122]⟩ : ByteArray), x34.1, 1⟩ : S_Cutting)] : List S_Cutting)) rfl hx37 rfl sF56 rfl rfl uF56 (.inl ⟨_, rfl⟩) rfl rfl rfl rfl (el_own rfl rfl) (flat0 rfl fun _ => rfl)) <| sq z168 (oAsO rfl rfl rfl rfl rfl) <| nl) ?_
        refine Unw.blk ?_
        exact K10 _ ⟨x34.2.code, x34.2.at_, x34.2.seed, x37, h, (by kernel_rfl)⟩
      · rw [if_neg hc11] at h
        refine Go.condF rfl (byF iEq hc11) ?_
        refine Go.seq ?_
        refine Go.r0 c168 rfl rfl (sq z168 (oBi rfl rfl rfl rfl) <| sq z168 (oAsI rfl rfl) <| nl) ?_
        refine Unw.seq ?_
        by_cases hc12 : x28.1 = 1
        · rw [if_pos hc12] at h
          refine Go.condT rfl (iEq.2 hc12) ?_
          refine Go.seq ?_
          obtain ⟨x42, hx42, h⟩ := bs h
          refine Go.r0 c168 rfl rfl (sq z168 (oMv rfl rfl) <| sq z168 (oBS (es := List.map eI ([16, 17] : List Int)) rfl sF27 rfl (ptC rfl (fxI fx0) rfl (ptC rfl (fxI fx0) rfl pt0)) (flat0 rfl fun _ => rfl)) <| sq z168 (oCa (xs := [.v false [.mp 0 0 0], .v false [.own 41 0 0]]) (vs := [(false, [.im 0 _])]) (v := .v false [.im 0 _]) (L_spec_l00Src_among hx42) (.inl rfl) rfl kF99_121_27 rfl (ppP rfl rfl rfl (ppC rfl pp0)) rfl rfl (pbP rfl rfl pb0) rfl rfl rfl) <| sq z168 (oAsI rfl rfl) <| nl) ?_
          refine Unw.seq ?_
          refine Go.seq ?_
          refine Go.r1 c168 rfl rfl (st1 := mk [(6, iv x42.1)] [(0, some ⟨0, 0, true, true, false, true, [⟨.imm, 0, 1, .row 1 (List.map (eK .u8) x42.2.code)⟩, ⟨.imm, 0, 0, .sc (.int .i64 x42.2.at_)⟩, ⟨.imm, 0, 0, .sc (.int .u64 x42.2.seed)⟩]⟩)]) (by kernel_rfl) (sq z168 (oBS (es := List.map e_S_Cutting ([] : List S_Cutting)) rfl sF56 rfl pt0 (flat0 rfl fun _ => rfl)) <| sq z168 (oAsO rfl rfl rfl rfl rfl) <| nl) ?_
          refine Unw.seq ?_
          refine Go.seq ?_
          refine Go.r0 c168 rfl rfl (sq z168 (oAsI rfl rfl) <| nl) ?_
          refine Unw.seq ?_
          refine Go.block ?_
          obtain ⟨o, hl, h⟩ := bs h
          refine Go.lp c168 rfl _ (fun (s : (Int × (List S_Cutting))) => match s with | (k_7_l15, out_o4_l15) => mk [(4, .v false [.own 4 0 0]), (6, iv x42.1), (7, iv k_7_l15)] [(0, some ⟨0, 0, true, true, false, true, [⟨.imm, 0, 1, .row 1 (List.map (eK .u8) x42.2.code)⟩, ⟨.imm, 0, 0, .sc (.int .i64 x42.2.at_)⟩, ⟨.imm, 0, 0, .sc (.int .u64 x42.2.seed)⟩]⟩), (4, some ⟨0, 0, false, false, false, false, [⟨.sh, 0, 0, .row 3 (List.map e_S_Cutting out_o4_l15)⟩]⟩)]) (fun (out_o4_e3_15 : (List S_Cutting)) (p : Ex × St) => p.1 = .exit 3 ∧ p.2.norm ([4], [0, 4]) = mk [(4, .v false [.own 4 0 0])] [(0, some ⟨0, 0, true, true, false, true, [⟨.imm, 0, 1, .row 1 (List.map (eK .u8) x42.2.code)⟩, ⟨.imm, 0, 0, .sc (.int .i64 x42.2.at_)⟩, ⟨.imm, 0, 0, .sc (.int .u64 x42.2.seed)⟩]⟩), (4, some ⟨0, 0, false, false, false, false, [⟨.sh, 0, 0, .row 3 (List.map e_S_Cutting out_o4_e3_15)⟩]⟩)]) hl (by kernel_rfl) ?_ ?_ ?_
          · intro o p hp e
            exact nomatch (hp.1.symm.trans e)
          · rintro ⟨k_7_l15, out_o4_l15⟩ o h
            unfold spec_l16DrawList_l15 at h
            dsimp only at h
            refine Go.seq ?_
            refine Go.seq ?_
            refine Go.r0 c168 rfl rfl (sq z168 (oMv rfl rfl) <| sq z168 (oMv rfl rfl) <| sq z168 (oBi rfl rfl rfl rfl) <| nl) ?_
            refine Unw.seq ?_
            by_cases hc15 : k_7_l15 < x42.1
            · rw [if_pos hc15] at h
              refine Go.condT rfl (iDec.2 hc15) ?_
              refine Go.skip ?_
              refine Unw.seq ?_
              refine Go.seq ?_
              refine Go.block ?_
              obtain ⟨x55, hx55, h⟩ := bs h
              obtain ⟨x58, hx58, h⟩ := bs h
              refine Go.r0 c168 rfl rfl (sq z168 (oMv rfl rfl) <| sq z168 (oMv rfl rfl) <| sq z168 (oBi rfl rfl rfl rfl) <| sq z168 (oCvI rfl uF2 uF5 rfl) <| sq z168 (oBS (es := List.map (eK .u8) ([(IntKind.wrap .u8 ((w64 (97 + k_7_l15))))] : List Int)) rfl sF22 rfl (ptC rfl (fxI fx0) rfl pt0) (flat0 rfl fun _ => rfl)) <| sq z168 (oCvB (l := ([(IntKind.wrap .u8 ((w64 (97 + k_7_l15))))] : List Int)) rfl uF22 uF5 uF9 rfl (el_own rfl rfl)) <| sq z168 (oCat rfl hx55 rfl rfl) <| sq z168 (oBu (cs := [.im 0 _, .im 0 _, .im 0 _]) rfl bF163 rfl) <| sq z168 (oBS (es := List.map e_S_Cutting ([(⟨x55, 20, 40⟩ : S_Cutting)] : List S_Cutting)) rfl sF56 rfl (ptC rfl (fxI (fxI (fxI fx0))) rfl pt0) (flat0 rfl fun _ => rfl)) <| sq z168 (oApO (en := e_S_Cutting) (M := ([(⟨x55, 20, 40⟩ : S_Cutting)] : List S_Cutting)) rfl hx58 rfl sF56 rfl rfl uF56 (.inl ⟨_, rfl⟩) rfl rfl rfl rfl (el_own rfl rfl) (flat0 rfl fun _ => rfl)) <| sq z168 (oAsO rfl rfl rfl rfl rfl) <| nl) ?_
              refine Unw.blk ?_
              refine Unw.seq ?_
              refine Go.r0 c168 rfl rfl (sq z168 (oMv rfl rfl) <| sq z168 (oBi rfl rfl rfl rfl) <| sq z168 (oAsI rfl rfl) <| nl) ?_
              refine Unw.nil ?_
              cases h
              exact ⟨rfl, (by kernel_rfl)⟩
            · rw [if_neg hc15] at h
              refine Go.condF rfl (byF iDec hc15) ?_
              refine Go.exit ?_
              refine Unw.seqx ?_
              refine Unw.nil ?_
              cases h
              exact ⟨rfl, (by kernel_rfl)⟩
          · rintro ⟨e, st⟩ hp
            obtain ⟨out_o4_e3_15, rfl⟩ : ∃ y, y = o := ⟨o, rfl⟩
            obtain ⟨he, hst⟩ := hp
            obtain rfl : e = .exit 3 := he
            refine Unw.blkx ?_
            refine Unw.blk ?_
            exact K10 _ ⟨x42.2.code, x42.2.at_, x42.2.seed, out_o4_e3_15, h, hst⟩
        · rw [if_neg hc12] at h
          refine Go.condF rfl (byF iEq hc12) ?_
          refine Go.seq ?_
          refine Go.r0 c168 rfl rfl (sq z168 (oBi rfl rfl rfl rfl) <| sq z168 (oAsI rfl rfl) <| nl) ?_
          refine Unw.seq ?_
          by_cases hc16 : x28.1 = 2
          · rw [if_pos hc16] at h
            refine Go.condT rfl (iEq.2 hc16) ?_
            obtain ⟨x64, hx64, h⟩ := bs h
            refine Go.r0 c168 rfl rfl (sq z168 (oMv rfl rfl) <| sq z168 (oBu (cs := [.im 0 _, .im 0 _, .im 0 _]) rfl bF163 rfl) <| sq z168 (oBS (es := List.map e_S_Cutting ([(⟨(⟨#[97]⟩ : ByteArray), 1, 101⟩ : S_Cutting)] : List S_Cutting)) rfl sF56 rfl (ptC rfl (fxI (fxI (fxI fx0))) rfl pt0) (flat0 rfl fun _ => rfl)) <| sq z168 (oApO (en := e_S_Cutting) (M := ([(⟨(⟨#[97]⟩ : ByteArray), 1, 101⟩ : S_Cutting)] : List S_Cutting)) rfl hx64 rfl sF56 rfl rfl uF56 (.inl ⟨_, rfl⟩) rfl rfl rfl rfl (el_own rfl rfl) (flat0 rfl fun _ => rfl)) <| sq z168 (oAsO rfl rfl rfl rfl rfl) <| nl) ?_
            refine Unw.blk ?_
            exact K10 _ ⟨x28.2.code, x28.2.at_, x28.2.seed, x64, h, (by kernel_rfl)⟩
          · rw [if_neg hc16] at h
            refine Go.condF rfl (byF iEq hc16) ?_
            refine Go.skip ?_
            refine Unw.blk ?_
            exact K10 _ ⟨x28.2.code, x28.2.at_, x28.2.seed, out_o4_e0_4, h, (by kernel_rfl)⟩
theorem L_spec_l08DrawBudget {s_0 : S_l00Src} {r : (Int × S_l00Src)} (h : spec_l08DrawBudget s_0 = some r) : FL Try.prog cfg 87 [.ptr true [(.imm, .row 1 (List.map (eK .u8) s_0.code)), (.imm, .sc (.int .i64 s_0.at_)), (.imm, .sc (.int .u64 s_0.seed))]] = some ([(false, [.im 0 (.sc (.int .i64 r.1))])], [.ptr true [(.imm, .row 1 (List.map (eK .u8) r.2.code)), (.imm, .sc (.int .i64 r.2.at_)), (.imm, .sc (.int .u64 r.2.seed))]]) := by
  unfold spec_l08DrawBudget at h
  refine FL_goS (A := [(0, .v false [.mp 0 0 0])]) (B := [(0, some ⟨0, 0, true, true, false, true, [⟨.imm, 0, 1, .row 1 (List.map (eK .u8) s_0.code)⟩, ⟨.imm, 0, 0, .sc (.int .i64 s_0.at_)⟩, ⟨.imm, 0, 0, .sc (.int .u64 s_0.seed)⟩]⟩)]) (nt := 11) rfl rfl Try.func87 rfl rfl rfl rfl ?_
  refine Go.seq ?_
  refine Go.r0 c87 rfl rfl (sq z87 (oAsI rfl rfl) <| nl) ?_
  refine Unw.seq ?_
  refine Go.seq ?_
  refine Go.seq ?_
  obtain ⟨x4, hx4, h⟩ := bs h
  refine Go.r0 c87 rfl rfl (sq z87 (oMv rfl rfl) <| sq z87 (oCa (xs := [.v false [.mp 0 0 0], .v false [.im 0 _]]) (vs := [(false, [.im 0 _])]) (v := .v false [.im 0 _]) (L_spec_l00Src_one hx4) (.inl rfl) rfl kF183_121_2 rfl (ppP rfl rfl rfl (ppC rfl pp0)) rfl rfl (pbP rfl rfl pb0) rfl rfl rfl) <| nl) ?_
  refine Unw.seq ?_
  by_cases hc1 : x4.1 = true
  · rw [if_pos hc1] at h
    refine Go.condT rfl (Iff.rfl.2 hc1) ?_
    refine Go.seq ?_
    obtain ⟨x7, hx7, h⟩ := bs h
    refine Go.r1 c87 rfl rfl (st1 := mk [(0, .v false [.mp 0 0 0])] [(0, some ⟨0, 0, true, true, false, true, [⟨.imm, 0, 1, .row 1 (List.map (eK .u8) x4.2.code)⟩, ⟨.imm, 0, 0, .sc (.int .i64 x4.2.at_)⟩, ⟨.imm, 0, 0, .sc (.int .u64 x4.2.seed)⟩]⟩)]) (by kernel_rfl) (sq z87 (oMv rfl rfl) <| sq z87 (oBS (es := List.map eI ([0, 1, 5, 20000, 20001] : List Int)) rfl sF27 rfl (ptC rfl (fxI fx0) rfl (ptC rfl (fxI fx0) rfl (ptC rfl (fxI fx0) rfl (ptC rfl (fxI fx0) rfl (ptC rfl (fxI fx0) rfl pt0))))) (flat0 rfl fun _ => rfl)) <| sq z87 (oCa (xs := [.v false [.mp 0 0 0], .v false [.own 6 0 0]]) (vs := [(false, [.im 0 _])]) (v := .v false [.im 0 _]) (L_spec_l00Src_among hx7) (.inl rfl) rfl kF99_121_27 rfl (ppP rfl rfl rfl (ppC rfl pp0)) rfl rfl (pbP rfl rfl pb0) rfl rfl rfl) <| sq z87 (oAsI rfl rfl) <| nl) ?_
    refine Unw.seq ?_
    refine Go.ret (Unw.ret ?_)
    cases h
    exact Fin_ret (fin_of rfl rF87 rfl (by kernel_rfl))
  · rw [if_neg hc1] at h
    refine Go.condF rfl (byF Iff.rfl hc1) ?_
    refine Go.skip ?_
    refine Unw.seq ?_
    refine Go.seq ?_
    obtain ⟨x9, hx9, h⟩ := bs h
    refine Go.r1 c87 rfl rfl (st1 := mk [(0, .v false [.mp 0 0 0])] [(0, some ⟨0, 0, true, true, false, true, [⟨.imm, 0, 1, .row 1 (List.map (eK .u8) x4.2.code)⟩, ⟨.imm, 0, 0, .sc (.int .i64 x4.2.at_)⟩, ⟨.imm, 0, 0, .sc (.int .u64 x4.2.seed)⟩]⟩)]) (by kernel_rfl) (sq z87 (oMv rfl rfl) <| sq z87 (oCa (xs := [.v false [.mp 0 0 0], .v false [.im 0 _]]) (vs := [(false, [.im 0 _])]) (v := .v false [.im 0 _]) (L_spec_l00Src_pick hx9) (.inl rfl) rfl kF184_121_2 rfl (ppP rfl rfl rfl (ppC rfl pp0)) rfl rfl (pbP rfl rfl pb0) rfl rfl rfl) <| sq z87 (oBi rfl rfl rfl rfl) <| sq z87 (oAsI rfl rfl) <| nl) ?_
    refine Unw.seq ?_
    refine Go.ret (Unw.ret ?_)
    cases h
    exact Fin_ret (fin_of rfl rF87 rfl (by kernel_rfl))
theorem L_spec_DrawFewestBlades {code_0 : (List Int)} {r : (S_Blade × (List S_Cutting) × Int)} (h : spec_DrawFewestBlades code_0 = some r) : FL Try.prog cfg 75 [.im 2 false [.row 1 (List.map (eK .u8) code_0)]] = some ([(true, [.im 0 (.sc (.string r.1.Name)), .im 0 (.sc (.int .i64 r.1.Life)), .im 0 (.sc (.int .i64 r.1.Price)), .im 0 (.sc (.int .i64 r.1.Speed))]), (false, [.ow 0 3 (List.map e_S_Cutting r.2.1)]), (false, [.im 0 (.sc (.int .i64 r.2.2))])], []) := by
  unfold spec_DrawFewestBlades at h
  refine FL_goS (A := [(0, .v false [.im 2 (.row 1 (List.map (eK .u8) code_0))])]) (B := [(0, none)]) (nt := 18) rfl rfl Try.func75 rfl rfl rfl rfl ?_
  refine Go.seq ?_
  refine Go.r0 c75 rfl rfl (sq z75 (oAl rfl tF54 (tkI (tkI (tkI (tkI tk0))))) <| sq z75 (oAsN rfl rfl eF56) <| sq z75 (oAsI rfl rfl) <| nl) ?_
  refine Unw.seq ?_
  refine Go.seq ?_
  obtain ⟨x9, hx9, h⟩ := bs h
  refine Go.r0 c75 rfl rfl (sq z75 (oMv rfl rfl) <| sq z75 (oCp (xs := [.v false [.im 2 _]]) (L_spec_l00From hx9) (.inl rfl) rfl kF85_22 rfl (ppC rfl pp0) rfl rfl pb0 rfl) <| sq z75 (oAsP rfl rfl) <| nl) ?_
  refine Unw.seq ?_
  refine Go.seq ?_
  obtain ⟨x11, hx11, h⟩ := bs h
  refine Go.r0 c75 rfl rfl (sq z75 (oMv rfl rfl) <| sq z75 (oCa (xs := [.v false [.mp 9 0 0]]) (vs := [(true, [.im 0 _, .im 0 _, .im 0 _, .im 0 _])]) (v := .v true [.im 0 _, .im 0 _, .im 0 _, .im 0 _]) (L_spec_l16Draw hx11) (.inl rfl) rfl kF167_121 rfl (ppP rfl rfl rfl pp0) rfl rfl (pbP rfl rfl pb0) rfl rfl rfl) <| sq z75 (oAl rfl tF54 (tkI (tkI (tkI (tkI tk0))))) <| sq z75 (oSt tF54 rfl rfl rfl (tkI (tkI (tkI (tkI tk0)))) rfl rfl rfl) <| nl) ?_
  refine Unw.seq ?_
  refine Go.seq ?_
  obtain ⟨x13, hx13, h⟩ := bs h
  refine Go.r1 c75 rfl rfl (st1 := mk [(2, .v false [.mp 2 0 0]), (5, .v false [.mp 9 0 0]), (6, .v false [.mp 6 0 0])] [(2, some ⟨0, 0, false, true, false, true, [⟨.imm, 0, 0, .sc (.string (⟨#[]⟩ : ByteArray))⟩, ⟨.imm, 0, 0, .sc (.int .i64 0)⟩, ⟨.imm, 0, 0, .sc (.int .i64 0)⟩, ⟨.imm, 0, 0, .sc (.int .i64 0)⟩]⟩), (6, some ⟨0, 0, false, true, false, true, [⟨.imm, 0, 0, .sc (.string x11.1.Name)⟩, ⟨.imm, 0, 0, .sc (.int .i64 x11.1.Life)⟩, ⟨.imm, 0, 0, .sc (.int .i64 x11.1.Price)⟩, ⟨.imm, 0, 0, .sc (.int .i64 x11.1.Speed)⟩]⟩), (9, some ⟨0, 0, false, true, false, true, [⟨.imm, 0, 2, .row 1 (List.map (eK .u8) x11.2.code)⟩, ⟨.imm, 0, 0, .sc (.int .i64 x11.2.at_)⟩, ⟨.imm, 0, 0, .sc (.int .u64 x11.2.seed)⟩]⟩)]) (by kernel_rfl) (sq z75 (oMv rfl rfl) <| sq z75 (oCr (xs := [.v false [.mp 9 0 0]]) (vs := [(false, [.own 13 0 0])]) (v := .v false [.own 13 0 0]) (c := ⟨.sh, 0, _⟩) (cs := []) (L_spec_l16DrawList hx13) (.inl rfl) rfl kF168_121 rfl (ppP rfl rfl rfl pp0) rfl rfl (pbP rfl rfl pb0) rfl rfl rfl) <| sq z75 (oAsO rfl rfl rfl rfl rfl) <| nl) ?_
  refine Unw.seq ?_
  refine Go.seq ?_
  obtain ⟨x17, hx17, h⟩ := bs h
  refine Go.dr c75 rfl rfl rfl (st1 := mk [(2, .v false [.mp 2 0 0]), (5, .v false [.mp 9 0 0]), (6, .v false [.mp 6 0 0]), (7, .v false [.own 7 0 0])] [(2, some ⟨0, 0, false, true, false, true, [⟨.imm, 0, 0, .sc (.string (⟨#[]⟩ : ByteArray))⟩, ⟨.imm, 0, 0, .sc (.int .i64 0)⟩, ⟨.imm, 0, 0, .sc (.int .i64 0)⟩, ⟨.imm, 0, 0, .sc (.int .i64 0)⟩]⟩), (6, some ⟨0, 0, false, true, false, true, [⟨.imm, 0, 0, .sc (.string x11.1.Name)⟩, ⟨.imm, 0, 0, .sc (.int .i64 x11.1.Life)⟩, ⟨.imm, 0, 0, .sc (.int .i64 x11.1.Price)⟩, ⟨.imm, 0, 0, .sc (.int .i64 x11.1.Speed)⟩]⟩), (7, some ⟨0, 0, false, false, false, false, [⟨.sh, 0, 0, .row 3 (List.map e_S_Cutting x13.1)⟩]⟩), (9, some ⟨0, 0, false, true, false, true, [⟨.imm, 0, 2, .row 1 (List.map (eK .u8) x13.2.code)⟩, ⟨.imm, 0, 0, .sc (.int .i64 x13.2.at_)⟩, ⟨.imm, 0, 0, .sc (.int .u64 x13.2.seed)⟩]⟩)]) (by kernel_rfl) (mk [(2, .v false [.mp 2 0 0]), (3, .v false [.own 3 0 0]), (4, iv x17.1)] [(2, some ⟨0, 0, false, true, false, true, [⟨.imm, 0, 0, .sc (.string x11.1.Name)⟩, ⟨.imm, 0, 0, .sc (.int .i64 x11.1.Life)⟩, ⟨.imm, 0, 0, .sc (.int .i64 x11.1.Price)⟩, ⟨.imm, 0, 0, .sc (.int .i64 x11.1.Speed)⟩]⟩), (3, some ⟨0, 0, false, false, false, false, [⟨.sh, 0, 0, .row 3 (List.map e_S_Cutting x13.1)⟩]⟩)]) (sT rfl (dN z75 rfl (oMv rfl rfl)) <| sT rfl (dN z75 rfl (oMv rfl rfl)) <| sK (O := [6]) rfl rfl rfl (dN z75 rfl (oLd (cs := [.im 0 _, .im 0 _, .im 0 _, .im 0 _]) rfl tF54 rfl rfl)) <| sS (dN z75 rfl (oCa (xs := [.v false [.mp 9 0 0]]) (vs := [(false, [.im 0 _])]) (v := .v false [.im 0 _]) (L_spec_l08DrawBudget hx17) (.inl rfl) rfl kF87_121 rfl (ppP rfl rfl rfl pp0) rfl rfl (pbP rfl rfl pb0) rfl rfl rfl)) (kY ⟨rfl, trivial⟩ trivial) (sS (dN z75 rfl (oSt tF54 rfl rfl rfl (tkI (tkI (tkI (tkI tk0)))) rfl rfl rfl)) (kN rfl trivial) (sS (dN z75 rfl (oAsO rfl rfl rfl rfl rfl)) (kN rfl trivial) (sS (dN z75 rfl (oAsI rfl rfl)) (kN rfl trivial) (sD (by kernel_rfl)))))) ?_
  refine Unw.seq ?_
  refine Go.ret (Unw.ret ?_)
  cases h
  exact Fin_ret (fin_of rfl rF75 rfl (by kernel_rfl))
theorem L_impl_IsName {s_0 : ByteArray} {r : Bool} (h : impl_IsName s_0 = some r) : FL Try.prog cfg 250 [.im 2 false [.sc (.string s_0)]] = some ([(false, [.im 0 (.sc (.bool r))])], []) := by
  unfold impl_IsName at h
  refine FL_goS (A := [(0, .v false [.im 2 (.sc (.string s_0))])]) (B := [(0, none)]) (nt := 50) rfl rfl Try.func250 rfl rfl rfl rfl ?_
  refine Go.seq ?_
  refine Go.r0 c250 rfl rfl (sq z250 (oAsI rfl rfl) <| nl) ?_
  refine Unw.seq ?_
  refine Go.seq ?_
  refine Go.seq ?_
  obtain ⟨t_21_m1, hm26, h⟩ := bs h
  refine Go.rX c250 rfl rfl rfl (mk [(0, sv s_0), (21, bv t_21_m1)] []) ?_ ?_
  · by_cases hc1 : (s_0.size : Int) < 1
    · rw [if_pos hc1] at hm26
      cases hm26
      exact ⟨_, sq z250 (oMv rfl rfl) <| sq z250 (oLnS rfl rfl uF9 rfl) <| sq z250 (oBi rfl rfl rfl rfl) <| sq z250 (oMv rfl rfl) <| sgF rfl rfl (iDec.2 hc1) rfl <| sgF rfl rfl (iDec.2 hc1) rfl <| sgF rfl rfl (iDec.2 hc1) rfl <| sq z250 (oPkT rfl rfl (iDec.2 hc1) rfl) <| sq z250 (oMv rfl rfl) <| sgF rfl rfl rfl rfl <| sgF rfl rfl rfl rfl <| sgF rfl rfl rfl rfl <| sq z250 (oPkT rfl rfl rfl rfl) <| sq z250 (oMv rfl rfl) <| sgF rfl rfl rfl rfl <| sgF rfl rfl rfl rfl <| sgF rfl rfl rfl rfl <| sq z250 (oPkT rfl rfl rfl rfl) <| nl, (by kernel_rfl)⟩
    · rw [if_neg hc1] at hm26
      by_cases hc2 : (s_0.size : Int) > 10
      · rw [if_pos hc2] at hm26
        cases hm26
        exact ⟨_, sq z250 (oMv rfl rfl) <| sq z250 (oLnS rfl rfl uF9 rfl) <| sq z250 (oBi rfl rfl rfl rfl) <| sq z250 (oMv rfl rfl) <| sgT z250 rfl rfl (byF iDec hc1) (oMv rfl rfl) <| sgT z250 rfl rfl (byF iDec hc1) (oLnS rfl rfl uF9 rfl) <| sgT z250 rfl rfl (byF iDec hc1) (oBi rfl rfl rfl rfl) <| sq z250 (oPkF rfl rfl (byF iDec hc1) rfl) <| sq z250 (oMv rfl rfl) <| sgF rfl rfl (iDec.2 hc2) rfl <| sgF rfl rfl (iDec.2 hc2) rfl <| sgF rfl rfl (iDec.2 hc2) rfl <| sq z250 (oPkT rfl rfl (iDec.2 hc2) rfl) <| sq z250 (oMv rfl rfl) <| sgF rfl rfl rfl rfl <| sgF rfl rfl rfl rfl <| sgF rfl rfl rfl rfl <| sq z250 (oPkT rfl rfl rfl rfl) <| nl, (by kernel_rfl)⟩
      · rw [if_neg hc2] at hm26
        obtain ⟨x14, hx14, hm26⟩ := bs hm26
        by_cases hc3 : x14 < 97
        · rw [if_pos hc3] at hm26
          cases hm26
          exact ⟨_, sq z250 (oMv rfl rfl) <| sq z250 (oLnS rfl rfl uF9 rfl) <| sq z250 (oBi rfl rfl rfl rfl) <| sq z250 (oMv rfl rfl) <| sgT z250 rfl rfl (byF iDec hc1) (oMv rfl rfl) <| sgT z250 rfl rfl (byF iDec hc1) (oLnS rfl rfl uF9 rfl) <| sgT z250 rfl rfl (byF iDec hc1) (oBi rfl rfl rfl rfl) <| sq z250 (oPkF rfl rfl (byF iDec hc1) rfl) <| sq z250 (oMv rfl rfl) <| sgT z250 rfl rfl (byF iDec hc2) (oMv rfl rfl) <| sgT z250 rfl rfl (byF iDec hc2) (oIx rfl hx14 uF9 rfl rfl) <| sgT z250 rfl rfl (byF iDec hc2) (oBi rfl rfl rfl rfl) <| sq z250 (oPkF rfl rfl (byF iDec hc2) rfl) <| sq z250 (oMv rfl rfl) <| sgF rfl rfl (iDec.2 hc3) rfl <| sgF rfl rfl (iDec.2 hc3) rfl <| sgF rfl rfl (iDec.2 hc3) rfl <| sq z250 (oPkT rfl rfl (iDec.2 hc3) rfl) <| nl, (by kernel_rfl)⟩
        · rw [if_neg hc3] at hm26
          obtain ⟨x19, hx19, hm26⟩ := bs hm26
          cases hm26
          exact ⟨_, sq z250 (oMv rfl rfl) <| sq z250 (oLnS rfl rfl uF9 rfl) <| sq z250 (oBi rfl rfl rfl rfl) <| sq z250 (oMv rfl rfl) <| sgT z250 rfl rfl (byF iDec hc1) (oMv rfl rfl) <| sgT z250 rfl rfl (byF iDec hc1) (oLnS rfl rfl uF9 rfl) <| sgT z250 rfl rfl (byF iDec hc1) (oBi rfl rfl rfl rfl) <| sq z250 (oPkF rfl rfl (byF iDec hc1) rfl) <| sq z250 (oMv rfl rfl) <| sgT z250 rfl rfl (byF iDec hc2) (oMv rfl rfl) <| sgT z250 rfl rfl (byF iDec hc2) (oIx rfl hx14 uF9 rfl rfl) <| sgT z250 rfl rfl (byF iDec hc2) (oBi rfl rfl rfl rfl) <| sq z250 (oPkF rfl rfl (byF iDec hc2) rfl) <| sq z250 (oMv rfl rfl) <| sgT z250 rfl rfl (byF iDec hc3) (oMv rfl rfl) <| sgT z250 rfl rfl (byF iDec hc3) (oIx rfl hx19 uF9 rfl rfl) <| sgT z250 rfl rfl (byF iDec hc3) (oBi rfl rfl rfl rfl) <| sq z250 (oPkF rfl rfl (byF iDec hc3) rfl) <| nl, (by kernel_rfl)⟩
  · refine Unw.seq ?_
    by_cases hc4 : t_21_m1 = true
    · rw [if_pos hc4] at h
      refine Go.condT rfl (Iff.rfl.2 hc4) ?_
      refine Go.seq ?_
      refine Go.r0 c250 rfl rfl (sq z250 (oAsI rfl rfl) <| nl) ?_
      refine Unw.seq ?_
      refine Go.ret (Unw.ret ?_)
      cases h
      exact Fin_ret (fin_of rfl rF250 rfl (by kernel_rfl))
    · rw [if_neg hc4] at h
      refine Go.condF rfl (byF Iff.rfl hc4) ?_
      refine Go.skip ?_
      refine Unw.seq ?_
      refine Go.seq ?_
      refine Go.seq ?_
      refine Go.r0 c250 rfl rfl (sq z250 (oAsI rfl rfl) <| nl) ?_
      refine Unw.seq ?_
      refine Go.block ?_
      obtain ⟨o, hl, h⟩ := bs h
      refine Go.lp c250 rfl _ (fun (i_3_l4 : Int) => mk [(0, sv s_0), (3, iv i_3_l4)] []) (fun (o : (Unit ⊕ Bool)) (p : Ex × St) => match o with | (.inl _) => p.1 = .exit 0 ∧ p.2.norm ([], []) = mk [] [] | (.inr r2) => p.1 = .ret ∧ fin Try.prog cfg 250 Try.f250 [.im 2 false [.sc (.string s_0)]] p.2 = some ([(false, [.im 0 (.sc (.bool r2))])], [])) hl (by kernel_rfl) ?_ ?_ ?_
      · intro o p hp e
        rcases o with u | r2 <;> exact nomatch (hp.1.symm.trans e)
      · rintro i_3_l4 o h
        unfold impl_IsName_l4 at h
        refine Go.seq ?_
        refine Go.seq ?_
        refine Go.r0 c250 rfl rfl (sq z250 (oMv rfl rfl) <| sq z250 (oMv rfl rfl) <| sq z250 (oLnS rfl rfl uF9 rfl) <| sq z250 (oBi rfl rfl rfl rfl) <| nl) ?_
        refine Unw.seq ?_
        by_cases hc19 : i_3_l4 < (s_0.size : Int)
        · rw [if_pos hc19] at h
          refine Go.condT rfl (iDec.2 hc19) ?_
          refine Go.skip ?_
          refine Unw.seq ?_
          refine Go.seq ?_
          refine Go.block ?_
          refine Go.seq ?_
          obtain ⟨x30, hx30, h⟩ := bs h
          obtain ⟨t_49_m6, hm25, h⟩ := bs h
          refine Go.rX c250 rfl rfl rfl (mk [(0, sv s_0), (3, iv i_3_l4), (49, bv t_49_m6)] []) ?_ ?_
          · by_cases hc20 : x30 < 97
            · rw [if_pos hc20] at hm25
              obtain ⟨x41, hx41, hm25⟩ := bs hm25
              by_cases hc21 : x41 < 48
              · rw [if_pos hc21] at hm25
                cases hm25
                exact ⟨_, sq z250 (oMv rfl rfl) <| sq z250 (oMv rfl rfl) <| sq z250 (oIx rfl hx30 uF9 rfl rfl) <| sq z250 (oBi rfl rfl rfl rfl) <| sq z250 (oMv rfl rfl) <| sgF rfl rfl (iDec.2 hc20) rfl <| sgF rfl rfl (iDec.2 hc20) rfl <| sgF rfl rfl (iDec.2 hc20) rfl <| sgF rfl rfl (iDec.2 hc20) rfl <| sq z250 (oPkT rfl rfl (iDec.2 hc20) rfl) <| sq z250 (oMv rfl rfl) <| sgT z250 rfl rfl rfl (oMv rfl rfl) <| sgT z250 rfl rfl rfl (oMv rfl rfl) <| sgT z250 rfl rfl rfl (oIx rfl hx41 uF9 rfl rfl) <| sgT z250 rfl rfl rfl (oBi rfl rfl rfl rfl) <| sgT z250 rfl rfl rfl (oMv rfl rfl) <| sgF rfl rfl (iDec.2 hc21) rfl <| sgF rfl rfl (iDec.2 hc21) rfl <| sgF rfl rfl (iDec.2 hc21) rfl <| sgF rfl rfl (iDec.2 hc21) rfl <| sgT z250 rfl rfl rfl (oPkT rfl rfl (iDec.2 hc21) rfl) <| sq z250 (oPkT rfl rfl rfl rfl) <| nl, (by kernel_rfl)⟩
              · rw [if_neg hc21] at hm25
                obtain ⟨x46, hx46, hm25⟩ := bs hm25
                cases hm25
                exact ⟨_, sq z250 (oMv rfl rfl) <| sq z250 (oMv rfl rfl) <| sq z250 (oIx rfl hx30 uF9 rfl rfl) <| sq z250 (oBi rfl rfl rfl rfl) <| sq z250 (oMv rfl rfl) <| sgF rfl rfl (iDec.2 hc20) rfl <| sgF rfl rfl (iDec.2 hc20) rfl <| sgF rfl rfl (iDec.2 hc20) rfl <| sgF rfl rfl (iDec.2 hc20) rfl <| sq z250 (oPkT rfl rfl (iDec.2 hc20) rfl) <| sq z250 (oMv rfl rfl) <| sgT z250 rfl rfl rfl (oMv rfl rfl) <| sgT z250 rfl rfl rfl (oMv rfl rfl) <| sgT z250 rfl rfl rfl (oIx rfl hx41 uF9 rfl rfl) <| sgT z250 rfl rfl rfl (oBi rfl rfl rfl rfl) <| sgT z250 rfl rfl rfl (oMv rfl rfl) <| sgT z250 rfl rfl (byF iDec hc21) (oMv rfl rfl) <| sgT z250 rfl rfl (byF iDec hc21) (oMv rfl rfl) <| sgT z250 rfl rfl (byF iDec hc21) (oIx rfl hx46 uF9 rfl rfl) <| sgT z250 rfl rfl (byF iDec hc21) (oBi rfl rfl rfl rfl) <| sgT z250 rfl rfl rfl (oPkF rfl rfl (byF iDec hc21) rfl) <| sq z250 (oPkT rfl rfl rfl rfl) <| nl, (by kernel_rfl)⟩
            · rw [if_neg hc20] at hm25
              obtain ⟨x35, hx35, hm25⟩ := bs hm25
              by_cases hc22 : x35 > 122
              · rw [if_pos hc22] at hm25
                obtain ⟨x41, hx41, hm25⟩ := bs hm25
                by_cases hc23 : x41 < 48
                · rw [if_pos hc23] at hm25
                  cases hm25
                  exact ⟨_, sq z250 (oMv rfl rfl) <| sq z250 (oMv rfl rfl) <| sq z250 (oIx rfl hx30 uF9 rfl rfl) <| sq z250 (oBi rfl rfl rfl rfl) <| sq z250 (oMv rfl rfl) <| sgT z250 rfl rfl (byF iDec hc20) (oMv rfl rfl) <| sgT z250 rfl rfl (byF iDec hc20) (oMv rfl rfl) <| sgT z250 rfl rfl (byF iDec hc20) (oIx rfl hx35 uF9 rfl rfl) <| sgT z250 rfl rfl (byF iDec hc20) (oBi rfl rfl rfl rfl) <| sq z250 (oPkF rfl rfl (byF iDec hc20) rfl) <| sq z250 (oMv rfl rfl) <| sgT z250 rfl rfl (iDec.2 hc22) (oMv rfl rfl) <| sgT z250 rfl rfl (iDec.2 hc22) (oMv rfl rfl) <| sgT z250 rfl rfl (iDec.2 hc22) (oIx rfl hx41 uF9 rfl rfl) <| sgT z250 rfl rfl (iDec.2 hc22) (oBi rfl rfl rfl rfl) <| sgT z250 rfl rfl (iDec.2 hc22) (oMv rfl rfl) <| sgF rfl rfl (iDec.2 hc23) rfl <| sgF rfl rfl (iDec.2 hc23) rfl <| sgF rfl rfl (iDec.2 hc23) rfl <| sgF rfl rfl (iDec.2 hc23) rfl <| sgT z250 rfl rfl (iDec.2 hc22) (oPkT rfl rfl (iDec.2 hc23) rfl) <| sq z250 (oPkT rfl rfl (iDec.2 hc22) rfl) <| nl, (by kernel_rfl)⟩
                · rw [if_neg hc23] at hm25
                  obtain ⟨x46, hx46, hm25⟩ := bs hm25
                  cases hm25
                  exact ⟨_, sq z250 (oMv rfl rfl) <| sq z250 (oMv rfl rfl) <| sq z250 (oIx rfl hx30 uF9 rfl rfl) <| sq z250 (oBi rfl rfl rfl rfl) <| sq z250 (oMv rfl rfl) <| sgT z250 rfl rfl (byF iDec hc20) (oMv rfl rfl) <| sgT z250 rfl rfl (byF iDec hc20) (oMv rfl rfl) <| sgT z250 rfl rfl (byF iDec hc20) (oIx rfl hx35 uF9 rfl rfl) <| sgT z250 rfl rfl (byF iDec hc20) (oBi rfl rfl rfl rfl) <| sq z250 (oPkF rfl rfl (byF iDec hc20) rfl) <| sq z250 (oMv rfl rfl) <| sgT z250 rfl rfl (iDec.2 hc22) (oMv rfl rfl) <| sgT z250 rfl rfl (iDec.2 hc22) (oMv rfl rfl) <| sgT z250 rfl rfl (iDec.2 hc22) (oIx rfl hx41 uF9 rfl rfl) <| sgT z250 rfl rfl (iDec.2 hc22) (oBi rfl rfl rfl rfl) <| sgT z250 rfl rfl (iDec.2 hc22) (oMv rfl rfl) <| sgT z250 rfl rfl (byF iDec hc23) (oMv rfl rfl) <| sgT z250 rfl rfl (byF iDec hc23) (oMv rfl rfl) <| sgT z250 rfl rfl (byF iDec hc23) (oIx rfl hx46 uF9 rfl rfl) <| sgT z250 rfl rfl (byF iDec hc23) (oBi rfl rfl rfl rfl) <| sgT z250 rfl rfl (iDec.2 hc22) (oPkF rfl rfl (byF iDec hc23) rfl) <| sq z250 (oPkT rfl rfl (iDec.2 hc22) rfl) <| nl, (by kernel_rfl)⟩
              · rw [if_neg hc22] at hm25
                cases hm25
                exact ⟨_, sq z250 (oMv rfl rfl) <| sq z250 (oMv rfl rfl) <| sq z250 (oIx rfl hx30 uF9 rfl rfl) <| sq z250 (oBi rfl rfl rfl rfl) <| sq z250 (oMv rfl rfl) <| sgT z250 rfl rfl (byF iDec hc20) (oMv rfl rfl) <| sgT z250 rfl rfl (byF iDec hc20) (oMv rfl rfl) <| sgT z250 rfl rfl (byF iDec hc20) (oIx rfl hx35 uF9 rfl rfl) <| sgT z250 rfl rfl (byF iDec hc20) (oBi rfl rfl rfl rfl) <| sq z250 (oPkF rfl rfl (byF iDec hc20) rfl) <| sq z250 (oMv rfl rfl) <| sgF rfl rfl (byF iDec hc22) rfl <| sgF rfl rfl (byF iDec hc22) rfl <| sgF rfl rfl (byF iDec hc22) rfl <| sgF rfl rfl (byF iDec hc22) rfl <| sgF rfl rfl (byF iDec hc22) rfl <| sgU rfl rfl rfl <| sgU rfl rfl rfl <| sgU rfl rfl rfl <| sgU rfl rfl rfl <| sgF rfl rfl (byF iDec hc22) rfl <| sq z250 (oPkF rfl rfl (byF iDec hc22) rfl) <| nl, (by kernel_rfl)⟩
          · refine Unw.seq ?_
            by_cases hc24 : t_49_m6 = true
            · rw [if_pos hc24] at h
              refine Go.condT rfl (Iff.rfl.2 hc24) ?_
              refine Go.seq ?_
              refine Go.r0 c250 rfl rfl (sq z250 (oAsI rfl rfl) <| nl) ?_
              refine Unw.seq ?_
              refine Go.ret (Unw.ret ?_)
              cases h
              exact ⟨rfl, (fin_of rfl rF250 rfl (by kernel_rfl))⟩
            · rw [if_neg hc24] at h
              refine Go.condF rfl (byF Iff.rfl hc24) ?_
              refine Go.skip ?_
              refine Unw.blk ?_
              refine Unw.seq ?_
              refine Go.r0 c250 rfl rfl (sq z250 (oMv rfl rfl) <| sq z250 (oBi rfl rfl rfl rfl) <| sq z250 (oAsI rfl rfl) <| nl) ?_
              refine Unw.nil ?_
              cases h
              exact ⟨rfl, (by kernel_rfl)⟩
        · rw [if_neg hc19] at h
          refine Go.condF rfl (byF iDec hc19) ?_
          refine Go.exit ?_
          refine Unw.seqx ?_
          refine Unw.nil ?_
          cases h
          exact ⟨rfl, (by kernel_rfl)⟩
      · rintro ⟨e, st⟩ hp
        rcases o with u | r2
        · dsimp only at h
          obtain ⟨he, hst⟩ := hp
          obtain rfl : e = .exit 0 := he
          refine Unw.blkx ?_
          refine Unw.seq ?_
          refine Go.seq ?_
          refine Go.r1 c250 rfl rfl hst (sq z250 (oAsI rfl rfl) <| nl) ?_
          refine Unw.seq ?_
          refine Go.ret (Unw.ret ?_)
          cases h
          exact Fin_ret (fin_of rfl rF250 rfl (by kernel_rfl))
        · dsimp only at h
          obtain ⟨he, hfin⟩ := hp
          obtain rfl : e = .ret := he
          cases h
          exact Unw.ret (Fin_ret hfin)
theorem L_impl_within {n_0 : Int} {low_1 : Int} {high_2 : Int} {r : Bool} (h : impl_within n_0 low_1 high_2 = some r) : FL Try.prog cfg 92 [.im 2 false [.sc (.int .i64 n_0)], .im 2 false [.sc (.int .i64 low_1)], .im 2 false [.sc (.int .i64 high_2)]] = some ([(false, [.im 0 (.sc (.bool r))])], []) := by
  unfold impl_within at h
  refine FL_goS (A := [(0, .v false [.im 2 (.sc (.int .i64 n_0))]), (1, .v false [.im 2 (.sc (.int .i64 low_1))]), (2, .v false [.im 2 (.sc (.int .i64 high_2))])]) (B := [(0, none), (1, none), (2, none)]) (nt := 15) rfl rfl Try.func92 rfl rfl rfl rfl ?_
  refine Go.seq ?_
  refine Go.r0 c92 rfl rfl (sq z92 (oAsI rfl rfl) <| nl) ?_
  refine Unw.seq ?_
  refine Go.seq ?_
  refine Go.rX c92 rfl rfl rfl (mk [(6, bv ((decide (n_0 ≥ low_1)) && (decide (n_0 ≤ high_2))))] []) ?_ ?_
  · by_cases hc1 : n_0 ≥ low_1
    · exact ⟨_, sq z92 (oMv rfl rfl) <| sq z92 (oMv rfl rfl) <| sq z92 (oBi rfl rfl rfl rfl) <| sq z92 (oMv rfl rfl) <| sgT z92 rfl rfl (iDec.2 hc1) (oMv rfl rfl) <| sgT z92 rfl rfl (iDec.2 hc1) (oMv rfl rfl) <| sgT z92 rfl rfl (iDec.2 hc1) (oBi rfl rfl rfl rfl) <| sq z92 (oPkT rfl rfl (iDec.2 hc1) rfl) <| sq z92 (oAsI rfl rfl) <| nl, (Eq.trans (b := (fun t_6_m1 : Bool => mk [(6, bv t_6_m1)] []) (decide (n_0 ≤ high_2))) (by kernel_rfl) (congrArg (fun t_6_m1 : Bool => mk [(6, bv t_6_m1)] []) (by first | rfl | (simp [(iDec.2 hc1)]; done) | (simp [(iDec.2 hc1)]; omega))))⟩
    · exact ⟨_, sq z92 (oMv rfl rfl) <| sq z92 (oMv rfl rfl) <| sq z92 (oBi rfl rfl rfl rfl) <| sq z92 (oMv rfl rfl) <| sgF rfl rfl (byF iDec hc1) rfl <| sgF rfl rfl (byF iDec hc1) rfl <| sgF rfl rfl (byF iDec hc1) rfl <| sq z92 (oPkF rfl rfl (byF iDec hc1) rfl) <| sq z92 (oAsI rfl rfl) <| nl, (Eq.trans (b := (fun t_6_m1 : Bool => mk [(6, bv t_6_m1)] []) false) (by kernel_rfl) (congrArg (fun t_6_m1 : Bool => mk [(6, bv t_6_m1)] []) (by first | rfl | (simp [(byF iDec hc1)]; done) | (simp [(byF iDec hc1)]; omega))))⟩
  · refine Unw.seq ?_
    refine Go.ret (Unw.ret ?_)
    cases h
    exact Fin_ret (fin_of rfl rF92 rfl (by kernel_rfl))
theorem L_impl_ValidBlade {b_0 : S_Blade} {r : Bool} (h : impl_ValidBlade b_0 = some r) : FL Try.prog cfg 197 [.im 2 true [.sc (.string b_0.Name), .sc (.int .i64 b_0.Life), .sc (.int .i64 b_0.Price), .sc (.int .i64 b_0.Speed)]] = some ([(false, [.im 0 (.sc (.bool r))])], []) := by
  unfold impl_ValidBlade at h
  refine FL_goS (A := [(0, .v true [.im 2 (.sc (.string b_0.Name)), .im 2 (.sc (.int .i64 b_0.Life)), .im 2 (.sc (.int .i64 b_0.Price)), .im 2 (.sc (.int .i64 b_0.Speed))])]) (B := [(0, none)]) (nt := 21) rfl rfl Try.func197 rfl rfl rfl rfl ?_
  refine Go.seq ?_
  refine Go.r0 c197 rfl rfl (sq z197 (oBx rfl tF54 rfl (tkI (tkI (tkI (tkI tk0))))) <| sq z197 (oAsI rfl rfl) <| nl) ?_
  refine Unw.seq ?_
  refine Go.seq ?_
  obtain ⟨x5, hx5, h⟩ := bs h
  obtain ⟨t_2_m1, hm4, h⟩ := bs h
  refine Go.rX c197 rfl rfl rfl (mk [(2, bv t_2_m1)] []) ?_ ?_
  · by_cases hc1 : x5 = true
    · rw [if_pos hc1] at hm4
      obtain ⟨x9, hx9, hm4⟩ := bs hm4
      by_cases hc2 : x9 = true
      · rw [if_pos hc2] at hm4
        obtain ⟨x14, hx14, hm4⟩ := bs hm4
        by_cases hc3 : x14 = true
        · rw [if_pos hc3] at hm4
          obtain ⟨x19, hx19, hm4⟩ := bs hm4
          cases hm4
          exact ⟨_, sq z197 (oFA (r' := .mp 1 0 0) rfl fF54_0 rfl rfl) <| sq z197 (oLd (cs := [.im 0 _]) rfl tF9 rfl rfl) <| sq z197 (oCa (xs := [.v false [.im 0 _]]) (vs := [(false, [.im 0 _])]) (v := .v false [.im 0 _]) (L_impl_IsName hx5) (.inl rfl) rfl kF250_9 rfl (ppC rfl pp0) rfl rfl pb0 rfl rfl rfl) <| sq z197 (oMv rfl rfl) <| sgT z197 rfl rfl (Iff.rfl.2 hc1) (oFA (r' := .mp 1 0 1) rfl fF54_1 rfl rfl) <| sgT z197 rfl rfl (Iff.rfl.2 hc1) (oLd (cs := [.im 0 _]) rfl tF2 rfl rfl) <| sgT z197 rfl rfl (Iff.rfl.2 hc1) (oCa (xs := [.v false [.im 0 _], .v false [.im 0 _], .v false [.im 0 _]]) (vs := [(false, [.im 0 _])]) (v := .v false [.im 0 _]) (L_impl_within hx9) (.inl rfl) rfl kF92_2_2_2 rfl (ppC rfl (ppC rfl (ppC rfl pp0))) rfl rfl pb0 rfl rfl rfl) <| sq z197 (oPkT rfl rfl (Iff.rfl.2 hc1) rfl) <| sq z197 (oMv rfl rfl) <| sgT z197 rfl rfl (Iff.rfl.2 hc2) (oFA (r' := .mp 1 0 2) rfl fF54_2 rfl rfl) <| sgT z197 rfl rfl (Iff.rfl.2 hc2) (oLd (cs := [.im 0 _]) rfl tF2 rfl rfl) <| sgT z197 rfl rfl (Iff.rfl.2 hc2) (oCa (xs := [.v false [.im 0 _], .v false [.im 0 _], .v false [.im 0 _]]) (vs := [(false, [.im 0 _])]) (v := .v false [.im 0 _]) (L_impl_within hx14) (.inl rfl) rfl kF92_2_2_2 rfl (ppC rfl (ppC rfl (ppC rfl pp0))) rfl rfl pb0 rfl rfl rfl) <| sq z197 (oPkT rfl rfl (Iff.rfl.2 hc2) rfl) <| sq z197 (oMv rfl rfl) <| sgT z197 rfl rfl (Iff.rfl.2 hc3) (oFA (r' := .mp 1 0 3) rfl fF54_3 rfl rfl) <| sgT z197 rfl rfl (Iff.rfl.2 hc3) (oLd (cs := [.im 0 _]) rfl tF2 rfl rfl) <| sgT z197 rfl rfl (Iff.rfl.2 hc3) (oCa (xs := [.v false [.im 0 _], .v false [.im 0 _], .v false [.im 0 _]]) (vs := [(false, [.im 0 _])]) (v := .v false [.im 0 _]) (L_impl_within hx19) (.inl rfl) rfl kF92_2_2_2 rfl (ppC rfl (ppC rfl (ppC rfl pp0))) rfl rfl pb0 rfl rfl rfl) <| sq z197 (oPkT rfl rfl (Iff.rfl.2 hc3) rfl) <| sq z197 (oAsI rfl rfl) <| nl, (by kernel_rfl)⟩
        · rw [if_neg hc3] at hm4
          cases hm4
          exact ⟨_, sq z197 (oFA (r' := .mp 1 0 0) rfl fF54_0 rfl rfl) <| sq z197 (oLd (cs := [.im 0 _]) rfl tF9 rfl rfl) <| sq z197 (oCa (xs := [.v false [.im 0 _]]) (vs := [(false, [.im 0 _])]) (v := .v false [.im 0 _]) (L_impl_IsName hx5) (.inl rfl) rfl kF250_9 rfl (ppC rfl pp0) rfl rfl pb0 rfl rfl rfl) <| sq z197 (oMv rfl rfl) <| sgT z197 rfl rfl (Iff.rfl.2 hc1) (oFA (r' := .mp 1 0 1) rfl fF54_1 rfl rfl) <| sgT z197 rfl rfl (Iff.rfl.2 hc1) (oLd (cs := [.im 0 _]) rfl tF2 rfl rfl) <| sgT z197 rfl rfl (Iff.rfl.2 hc1) (oCa (xs := [.v false [.im 0 _], .v false [.im 0 _], .v false [.im 0 _]]) (vs := [(false, [.im 0 _])]) (v := .v false [.im 0 _]) (L_impl_within hx9) (.inl rfl) rfl kF92_2_2_2 rfl (ppC rfl (ppC rfl (ppC rfl pp0))) rfl rfl pb0 rfl rfl rfl) <| sq z197 (oPkT rfl rfl (Iff.rfl.2 hc1) rfl) <| sq z197 (oMv rfl rfl) <| sgT z197 rfl rfl (Iff.rfl.2 hc2) (oFA (r' := .mp 1 0 2) rfl fF54_2 rfl rfl) <| sgT z197 rfl rfl (Iff.rfl.2 hc2) (oLd (cs := [.im 0 _]) rfl tF2 rfl rfl) <| sgT z197 rfl rfl (Iff.rfl.2 hc2) (oCa (xs := [.v false [.im 0 _], .v false [.im 0 _], .v false [.im 0 _]]) (vs := [(false, [.im 0 _])]) (v := .v false [.im 0 _]) (L_impl_within hx14) (.inl rfl) rfl kF92_2_2_2 rfl (ppC rfl (ppC rfl (ppC rfl pp0))) rfl rfl pb0 rfl rfl rfl) <| sq z197 (oPkT rfl rfl (Iff.rfl.2 hc2) rfl) <| sq z197 (oMv rfl rfl) <| sgF rfl rfl (byF Iff.rfl hc3) rfl <| sgF rfl rfl (byF Iff.rfl hc3) rfl <| sgF rfl rfl (byF Iff.rfl hc3) rfl <| sq z197 (oPkF rfl rfl (byF Iff.rfl hc3) rfl) <| sq z197 (oAsI rfl rfl) <| nl, (by kernel_rfl)⟩
      · rw [if_neg hc2] at hm4
        cases hm4
        exact ⟨_, sq z197 (oFA (r' := .mp 1 0 0) rfl fF54_0 rfl rfl) <| sq z197 (oLd (cs := [.im 0 _]) rfl tF9 rfl rfl) <| sq z197 (oCa (xs := [.v false [.im 0 _]]) (vs := [(false, [.im 0 _])]) (v := .v false [.im 0 _]) (L_impl_IsName hx5) (.inl rfl) rfl kF250_9 rfl (ppC rfl pp0) rfl rfl pb0 rfl rfl rfl) <| sq z197 (oMv rfl rfl) <| sgT z197 rfl rfl (Iff.rfl.2 hc1) (oFA (r' := .mp 1 0 1) rfl fF54_1 rfl rfl) <| sgT z197 rfl rfl (Iff.rfl.2 hc1) (oLd (cs := [.im 0 _]) rfl tF2 rfl rfl) <| sgT z197 rfl rfl (Iff.rfl.2 hc1) (oCa (xs := [.v false [.im 0 _], .v false [.im 0 _], .v false [.im 0 _]]) (vs := [(false, [.im 0 _])]) (v := .v false [.im 0 _]) (L_impl_within hx9) (.inl rfl) rfl kF92_2_2_2 rfl (ppC rfl (ppC rfl (ppC rfl pp0))) rfl rfl pb0 rfl rfl rfl) <| sq z197 (oPkT rfl rfl (Iff.rfl.2 hc1) rfl) <| sq z197 (oMv rfl rfl) <| sgF rfl rfl (byF Iff.rfl hc2) rfl <| sgF rfl rfl (byF Iff.rfl hc2) rfl <| sgF rfl rfl (byF Iff.rfl hc2) rfl <| sq z197 (oPkF rfl rfl (byF Iff.rfl hc2) rfl) <| sq z197 (oMv rfl rfl) <| sgF rfl rfl rfl rfl <| sgF rfl rfl rfl rfl <| sgF rfl rfl rfl rfl <| sq z197 (oPkF rfl rfl rfl rfl) <| sq z197 (oAsI rfl rfl) <| nl, (by kernel_rfl)⟩
    · rw [if_neg hc1] at hm4
      cases hm4
      exact ⟨_, sq z197 (oFA (r' := .mp 1 0 0) rfl fF54_0 rfl rfl) <| sq z197 (oLd (cs := [.im 0 _]) rfl tF9 rfl rfl) <| sq z197 (oCa (xs := [.v false [.im 0 _]]) (vs := [(false, [.im 0 _])]) (v := .v false [.im 0 _]) (L_impl_IsName hx5) (.inl rfl) rfl kF250_9 rfl (ppC rfl pp0) rfl rfl pb0 rfl rfl rfl) <| sq z197 (oMv rfl rfl) <| sgF rfl rfl (byF Iff.rfl hc1) rfl <| sgF rfl rfl (byF Iff.rfl hc1) rfl <| sgF rfl rfl (byF Iff.rfl hc1) rfl <| sq z197 (oPkF rfl rfl (byF Iff.rfl hc1) rfl) <| sq z197 (oMv rfl rfl) <| sgF rfl rfl rfl rfl <| sgF rfl rfl rfl rfl <| sgF rfl rfl rfl rfl <| sq z197 (oPkF rfl rfl rfl rfl) <| sq z197 (oMv rfl rfl) <| sgF rfl rfl rfl rfl <| sgF rfl rfl rfl rfl <| sgF rfl rfl rfl rfl <| sq z197 (oPkF rfl rfl rfl rfl) <| sq z197 (oAsI rfl rfl) <| nl, (by kernel_rfl)⟩
  · refine Unw.seq ?_
    refine Go.ret (Unw.ret ?_)
    cases h
    exact Fin_ret (fin_of rfl rF197 rfl (by kernel_rfl))
theorem L_impl_validCutting {c_0 : S_Cutting} {r : Bool} (h : impl_validCutting c_0 = some r) : FL Try.prog cfg 253 [.im 2 true [.sc (.string c_0.Name), .sc (.int .i64 c_0.Length), .sc (.int .i64 c_0.Hardness)]] = some ([(false, [.im 0 (.sc (.bool r))])], []) := by
  unfold impl_validCutting at h
  refine FL_goS (A := [(0, .v true [.im 2 (.sc (.string c_0.Name)), .im 2 (.sc (.int .i64 c_0.Length)), .im 2 (.sc (.int .i64 c_0.Hardness))])]) (B := [(0, none)]) (nt := 16) rfl rfl Try.func253 rfl rfl rfl rfl ?_
  refine Go.seq ?_
  refine Go.r0 c253 rfl rfl (sq z253 (oBx rfl tF163 rfl (tkI (tkI (tkI tk0)))) <| sq z253 (oAsI rfl rfl) <| nl) ?_
  refine Unw.seq ?_
  refine Go.seq ?_
  obtain ⟨x5, hx5, h⟩ := bs h
  obtain ⟨t_2_m1, hm3, h⟩ := bs h
  refine Go.rX c253 rfl rfl rfl (mk [(2, bv t_2_m1)] []) ?_ ?_
  · by_cases hc1 : x5 = true
    · rw [if_pos hc1] at hm3
      obtain ⟨x9, hx9, hm3⟩ := bs hm3
      by_cases hc2 : x9 = true
      · rw [if_pos hc2] at hm3
        obtain ⟨x14, hx14, hm3⟩ := bs hm3
        cases hm3
        exact ⟨_, sq z253 (oFA (r' := .mp 1 0 0) rfl fF163_0 rfl rfl) <| sq z253 (oLd (cs := [.im 0 _]) rfl tF9 rfl rfl) <| sq z253 (oCa (xs := [.v false [.im 0 _]]) (vs := [(false, [.im 0 _])]) (v := .v false [.im 0 _]) (L_impl_IsName hx5) (.inl rfl) rfl kF250_9 rfl (ppC rfl pp0) rfl rfl pb0 rfl rfl rfl) <| sq z253 (oMv rfl rfl) <| sgT z253 rfl rfl (Iff.rfl.2 hc1) (oFA (r' := .mp 1 0 1) rfl fF163_1 rfl rfl) <| sgT z253 rfl rfl (Iff.rfl.2 hc1) (oLd (cs := [.im 0 _]) rfl tF2 rfl rfl) <| sgT z253 rfl rfl (Iff.rfl.2 hc1) (oCa (xs := [.v false [.im 0 _], .v false [.im 0 _], .v false [.im 0 _]]) (vs := [(false, [.im 0 _])]) (v := .v false [.im 0 _]) (L_impl_within hx9) (.inl rfl) rfl kF92_2_2_2 rfl (ppC rfl (ppC rfl (ppC rfl pp0))) rfl rfl pb0 rfl rfl rfl) <| sq z253 (oPkT rfl rfl (Iff.rfl.2 hc1) rfl) <| sq z253 (oMv rfl rfl) <| sgT z253 rfl rfl (Iff.rfl.2 hc2) (oFA (r' := .mp 1 0 2) rfl fF163_2 rfl rfl) <| sgT z253 rfl rfl (Iff.rfl.2 hc2) (oLd (cs := [.im 0 _]) rfl tF2 rfl rfl) <| sgT z253 rfl rfl (Iff.rfl.2 hc2) (oCa (xs := [.v false [.im 0 _], .v false [.im 0 _], .v false [.im 0 _]]) (vs := [(false, [.im 0 _])]) (v := .v false [.im 0 _]) (L_impl_within hx14) (.inl rfl) rfl kF92_2_2_2 rfl (ppC rfl (ppC rfl (ppC rfl pp0))) rfl rfl pb0 rfl rfl rfl) <| sq z253 (oPkT rfl rfl (Iff.rfl.2 hc2) rfl) <| sq z253 (oAsI rfl rfl) <| nl, (by kernel_rfl)⟩
      · rw [if_neg hc2] at hm3
        cases hm3
        exact ⟨_, sq z253 (oFA (r' := .mp 1 0 0) rfl fF163_0 rfl rfl) <| sq z253 (oLd (cs := [.im 0 _]) rfl tF9 rfl rfl) <| sq z253 (oCa (xs := [.v false [.im 0 _]]) (vs := [(false, [.im 0 _])]) (v := .v false [.im 0 _]) (L_impl_IsName hx5) (.inl rfl) rfl kF250_9 rfl (ppC rfl pp0) rfl rfl pb0 rfl rfl rfl) <| sq z253 (oMv rfl rfl) <| sgT z253 rfl rfl (Iff.rfl.2 hc1) (oFA (r' := .mp 1 0 1) rfl fF163_1 rfl rfl) <| sgT z253 rfl rfl (Iff.rfl.2 hc1) (oLd (cs := [.im 0 _]) rfl tF2 rfl rfl) <| sgT z253 rfl rfl (Iff.rfl.2 hc1) (oCa (xs := [.v false [.im 0 _], .v false [.im 0 _], .v false [.im 0 _]]) (vs := [(false, [.im 0 _])]) (v := .v false [.im 0 _]) (L_impl_within hx9) (.inl rfl) rfl kF92_2_2_2 rfl (ppC rfl (ppC rfl (ppC rfl pp0))) rfl rfl pb0 rfl rfl rfl) <| sq z253 (oPkT rfl rfl (Iff.rfl.2 hc1) rfl) <| sq z253 (oMv rfl rfl) <| sgF rfl rfl (byF Iff.rfl hc2) rfl <| sgF rfl rfl (byF Iff.rfl hc2) rfl <| sgF rfl rfl (byF Iff.rfl hc2) rfl <| sq z253 (oPkF rfl rfl (byF Iff.rfl hc2) rfl) <| sq z253 (oAsI rfl rfl) <| nl, (by kernel_rfl)⟩
    · rw [if_neg hc1] at hm3
      cases hm3
      exact ⟨_, sq z253 (oFA (r' := .mp 1 0 0) rfl fF163_0 rfl rfl) <| sq z253 (oLd (cs := [.im 0 _]) rfl tF9 rfl rfl) <| sq z253 (oCa (xs := [.v false [.im 0 _]]) (vs := [(false, [.im 0 _])]) (v := .v false [.im 0 _]) (L_impl_IsName hx5) (.inl rfl) rfl kF250_9 rfl (ppC rfl pp0) rfl rfl pb0 rfl rfl rfl) <| sq z253 (oMv rfl rfl) <| sgF rfl rfl (byF Iff.rfl hc1) rfl <| sgF rfl rfl (byF Iff.rfl hc1) rfl <| sgF rfl rfl (byF Iff.rfl hc1) rfl <| sq z253 (oPkF rfl rfl (byF Iff.rfl hc1) rfl) <| sq z253 (oMv rfl rfl) <| sgF rfl rfl rfl rfl <| sgF rfl rfl rfl rfl <| sgF rfl rfl rfl rfl <| sq z253 (oPkF rfl rfl rfl rfl) <| sq z253 (oAsI rfl rfl) <| nl, (by kernel_rfl)⟩
  · refine Unw.seq ?_
    refine Go.ret (Unw.ret ?_)
    cases h
    exact Fin_ret (fin_of rfl rF253 rfl (by kernel_rfl))
theorem L_impl_ValidCuttings {list_0 : (List S_Cutting)} {r : Bool} (h : impl_ValidCuttings list_0 = some r) : FL Try.prog cfg 198 [.im 2 false [.row 3 (List.map e_S_Cutting list_0)]] = some ([(false, [.im 0 (.sc (.bool r))])], []) := by
  unfold impl_ValidCuttings at h
  refine FL_goS (A := [(0, .v false [.im 2 (.row 3 (List.map e_S_Cutting list_0))])]) (B := [(0, none)]) (nt := 34) rfl rfl Try.func198 rfl rfl rfl rfl ?_
  refine Go.seq ?_
  refine Go.r0 c198 rfl rfl (sq z198 (oAsI rfl rfl) <| nl) ?_
  refine Unw.seq ?_
  refine Go.seq ?_
  refine Go.seq ?_
  refine Go.r0 c198 rfl rfl (sq z198 (oMv rfl rfl) <| sq z198 (oLnI rfl rfl uF56 rfl) <| sq z198 (oMv rfl rfl) <| nl) ?_
  refine Unw.seq ?_
  refine Go.block ?_
  obtain ⟨o, hl, h⟩ := bs h
  refine Go.lp c198 rfl _ (fun (t_7_l2 : Int) => mk [(0, .v false [.im 2 (.row 3 (List.map e_S_Cutting list_0))]), (5, .v false [.im 2 (.row 3 (List.map e_S_Cutting list_0))]), (6, iv (list_0.length : Int)), (7, iv t_7_l2)] []) (fun (o : (Unit ⊕ Bool)) (p : Ex × St) => match o with | (.inl _) => p.1 = .exit 0 ∧ p.2.norm ([0], []) = mk [(0, .v false [.im 2 (.row 3 (List.map e_S_Cutting list_0))])] [] | (.inr r2) => p.1 = .ret ∧ fin Try.prog cfg 198 Try.f198 [.im 2 false [.row 3 (List.map e_S_Cutting list_0)]] p.2 = some ([(false, [.im 0 (.sc (.bool r2))])], [])) hl (by kernel_rfl) ?_ ?_ ?_
  · intro o p hp e
    rcases o with u | r2 <;> exact nomatch (hp.1.symm.trans e)
  · rintro t_7_l2 o h
    unfold impl_ValidCuttings_l2 at h
    refine Go.seq ?_
    refine Go.r0 c198 rfl rfl (sq z198 (oBi rfl rfl rfl rfl) <| nl) ?_
    refine Unw.seq ?_
    refine Go.seq ?_
    by_cases hc11 : t_7_l2 < (list_0.length : Int)
    · rw [if_pos hc11] at h
      refine Go.condT rfl (iDec.2 hc11) ?_
      refine Go.skip ?_
      refine Unw.seq ?_
      refine Go.seq ?_
      refine Go.block ?_
      refine Go.seq ?_
      obtain ⟨x10, hx10, h⟩ := bs h
      refine Go.r0 c198 rfl rfl (sq z198 (oMv rfl rfl) <| sq z198 (oIAI rfl hx10 sF56 rfl rfl) <| sq z198 (oLd (cs := [.im 2 _, .im 2 _, .im 2 _]) rfl tF163 rfl rfl) <| sq z198 (oAl rfl tF163 (tkI (tkI (tkI tk0)))) <| sq z198 (oAsI rfl rfl) <| sq z198 (oSt tF163 rfl rfl rfl (tkI (tkI (tkI tk0))) rfl rfl rfl) <| nl) ?_
      refine Unw.seq ?_
      refine Go.seq ?_
      obtain ⟨x13, hx13, h⟩ := bs h
      obtain ⟨t_29_m4, hm15, h⟩ := bs h
      refine Go.dr c198 rfl rfl rfl (st1 := mk [(0, .v false [.im 2 (.row 3 (List.map e_S_Cutting list_0))]), (3, iv t_7_l2), (4, .v false [.mp 4 0 0]), (5, .v false [.im 2 (.row 3 (List.map e_S_Cutting list_0))]), (6, iv (list_0.length : Int)), (7, iv t_7_l2)] [(4, some ⟨0, 0, false, true, false, true, [⟨.imm, 0, 0, .sc (.string x10.Name)⟩, ⟨.imm, 0, 0, .sc (.int .i64 x10.Length)⟩, ⟨.imm, 0, 0, .sc (.int .i64 x10.Hardness)⟩]⟩)]) (by kernel_rfl) (mk [(0, .v false [.im 2 (.row 3 (List.map e_S_Cutting list_0))]), (5, .v false [.im 2 (.row 3 (List.map e_S_Cutting list_0))]), (6, iv (list_0.length : Int)), (7, iv t_7_l2), (29, bv t_29_m4)] []) ?_ ?_
      · by_cases hc12 : x13 = true
        · rw [if_pos hc12] at hm15
          by_cases hc13 : t_7_l2 > 0
          · rw [if_pos hc13] at hm15
            obtain ⟨x22, hx22, hm15⟩ := bs hm15
            cases hm15
            exact sT rfl (dN z198 rfl (oLd (cs := [.im 0 _, .im 0 _, .im 0 _]) rfl tF163 rfl rfl)) <| sS (dN z198 rfl (oCa (xs := [.v true [.im 0 _, .im 0 _, .im 0 _]]) (vs := [(false, [.im 0 _])]) (v := .v false [.im 0 _]) (L_impl_validCutting hx13) (.inl rfl) rfl kF253_163 rfl (ppC rfl pp0) rfl rfl pb0 rfl rfl rfl)) trivial (sT rfl (dN z198 rfl (oUn rfl rfl rfl)) <| sT rfl (dN z198 rfl (oMv rfl rfl)) <| sT rfl (dT z198 rfl rfl rfl (nF (Iff.rfl.2 hc12)) (oMv rfl rfl)) <| sT rfl (dT z198 rfl rfl rfl (nF (Iff.rfl.2 hc12)) (oBi rfl rfl rfl rfl)) <| sT rfl (dT z198 rfl rfl rfl (nF (Iff.rfl.2 hc12)) (oMv rfl rfl)) <| sT rfl (dT z198 rfl rfl rfl (iDec.2 hc13) (oMv rfl rfl)) <| sT rfl (dT z198 rfl rfl rfl (iDec.2 hc13) (oMv rfl rfl)) <| sT rfl (dT z198 rfl rfl rfl (iDec.2 hc13) (oBi rfl rfl rfl rfl)) <| sT rfl (dT z198 rfl rfl rfl (iDec.2 hc13) (oIAI rfl hx22 sF56 rfl rfl)) <| sT rfl (dT z198 rfl rfl rfl (iDec.2 hc13) (oFA (r' := .im 2 _) rfl fF163_0 rfl rfl)) <| sT rfl (dT z198 rfl rfl rfl (iDec.2 hc13) (oLd (cs := [.im 2 _]) rfl tF9 rfl rfl)) <| sT rfl (dT z198 rfl rfl rfl (iDec.2 hc13) (oFA (r' := .mp 4 0 0) rfl fF163_0 rfl rfl)) <| sT rfl (dT z198 rfl rfl rfl (iDec.2 hc13) (oLd (cs := [.im 0 _]) rfl tF9 rfl rfl)) <| sT rfl (dT z198 rfl rfl rfl (iDec.2 hc13) (oBi rfl rfl rfl rfl)) <| sT rfl (dT z198 rfl rfl rfl (nF (Iff.rfl.2 hc12)) (oPkT rfl rfl (iDec.2 hc13) rfl)) <| sT rfl (dN z198 rfl (oPkF rfl rfl (nF (Iff.rfl.2 hc12)) rfl)) <| sD (by kernel_rfl))
          · rw [if_neg hc13] at hm15
            cases hm15
            exact sT rfl (dN z198 rfl (oLd (cs := [.im 0 _, .im 0 _, .im 0 _]) rfl tF163 rfl rfl)) <| sS (dN z198 rfl (oCa (xs := [.v true [.im 0 _, .im 0 _, .im 0 _]]) (vs := [(false, [.im 0 _])]) (v := .v false [.im 0 _]) (L_impl_validCutting hx13) (.inl rfl) rfl kF253_163 rfl (ppC rfl pp0) rfl rfl pb0 rfl rfl rfl)) trivial (sT rfl (dN z198 rfl (oUn rfl rfl rfl)) <| sT rfl (dN z198 rfl (oMv rfl rfl)) <| sT rfl (dT z198 rfl rfl rfl (nF (Iff.rfl.2 hc12)) (oMv rfl rfl)) <| sT rfl (dT z198 rfl rfl rfl (nF (Iff.rfl.2 hc12)) (oBi rfl rfl rfl rfl)) <| sT rfl (dT z198 rfl rfl rfl (nF (Iff.rfl.2 hc12)) (oMv rfl rfl)) <| sT rfl (dF rfl rfl rfl (byF iDec hc13) rfl) <| sT rfl (dF rfl rfl rfl (byF iDec hc13) rfl) <| sT rfl (dF rfl rfl rfl (byF iDec hc13) rfl) <| sT rfl (dF rfl rfl rfl (byF iDec hc13) rfl) <| sT rfl (dF rfl rfl rfl (byF iDec hc13) rfl) <| sT rfl (dF rfl rfl rfl (byF iDec hc13) rfl) <| sT rfl (dF rfl rfl rfl (byF iDec hc13) rfl) <| sT rfl (dF rfl rfl rfl (byF iDec hc13) rfl) <| sT rfl (dF rfl rfl rfl (byF iDec hc13) rfl) <| sT rfl (dT z198 rfl rfl rfl (nF (Iff.rfl.2 hc12)) (oPkF rfl rfl (byF iDec hc13) rfl)) <| sT rfl (dN z198 rfl (oPkF rfl rfl (nF (Iff.rfl.2 hc12)) rfl)) <| sD (by kernel_rfl))
        · rw [if_neg hc12] at hm15
          cases hm15
          exact sT rfl (dN z198 rfl (oLd (cs := [.im 0 _, .im 0 _, .im 0 _]) rfl tF163 rfl rfl)) <| sS (dN z198 rfl (oCa (xs := [.v true [.im 0 _, .im 0 _, .im 0 _]]) (vs := [(false, [.im 0 _])]) (v := .v false [.im 0 _]) (L_impl_validCutting hx13) (.inl rfl) rfl kF253_163 rfl (ppC rfl pp0) rfl rfl pb0 rfl rfl rfl)) trivial (sT rfl (dN z198 rfl (oUn rfl rfl rfl)) <| sT rfl (dN z198 rfl (oMv rfl rfl)) <| sT rfl (dF rfl rfl rfl (nT (byF Iff.rfl hc12)) rfl) <| sT rfl (dF rfl rfl rfl (nT (byF Iff.rfl hc12)) rfl) <| sT rfl (dF rfl rfl rfl (nT (byF Iff.rfl hc12)) rfl) <| sT rfl (dU rfl rfl rfl rfl) <| sT rfl (dU rfl rfl rfl rfl) <| sT rfl (dU rfl rfl rfl rfl) <| sT rfl (dU rfl rfl rfl rfl) <| sT rfl (dU rfl rfl rfl rfl) <| sT rfl (dU rfl rfl rfl rfl) <| sT rfl (dU rfl rfl rfl rfl) <| sT rfl (dU rfl rfl rfl rfl) <| sT rfl (dU rfl rfl rfl rfl) <| sT rfl (dF rfl rfl rfl (nT (byF Iff.rfl hc12)) rfl) <| sT rfl (dN z198 rfl (oPkT rfl rfl (nT (byF Iff.rfl hc12)) rfl)) <| sD (by kernel_rfl))
      · refine Unw.seq ?_
        by_cases hc14 : t_29_m4 = true
        · rw [if_pos hc14] at h
          refine Go.condT rfl (Iff.rfl.2 hc14) ?_
          refine Go.seq ?_
          refine Go.r0 c198 rfl rfl (sq z198 (oAsI rfl rfl) <| nl) ?_
          refine Unw.seq ?_
          refine Go.ret (Unw.ret ?_)
          cases h
          exact ⟨rfl, (fin_of rfl rF198 rfl (by kernel_rfl))⟩
        · rw [if_neg hc14] at h
          refine Go.condF rfl (byF Iff.rfl hc14) ?_
          refine Go.skip ?_
          refine Unw.blk ?_
          refine Unw.seq ?_
          refine Go.r0 c198 rfl rfl (sq z198 (oBi rfl rfl rfl rfl) <| sq z198 (oMv rfl rfl) <| nl) ?_
          refine Unw.nil ?_
          cases h
          exact ⟨rfl, (by kernel_rfl)⟩
    · rw [if_neg hc11] at h
      refine Go.condF rfl (byF iDec hc11) ?_
      refine Go.exit ?_
      refine Unw.seqx ?_
      refine Unw.nil ?_
      cases h
      exact ⟨rfl, (by kernel_rfl)⟩
  · rintro ⟨e, st⟩ hp
    rcases o with u | r2
    · dsimp only at h
      obtain ⟨he, hst⟩ := hp
      obtain rfl : e = .exit 0 := he
      refine Unw.blkx ?_
      refine Unw.seq ?_
      refine Go.seq ?_
      refine Go.r1 c198 rfl rfl hst (sq z198 (oMv rfl rfl) <| sq z198 (oLnI rfl rfl uF56 rfl) <| sq z198 (oBi rfl rfl rfl rfl) <| sq z198 (oAsI rfl rfl) <| nl) ?_
      refine Unw.seq ?_
      refine Go.ret (Unw.ret ?_)
      cases h
      exact Fin_ret (fin_of rfl rF198 rfl (by kernel_rfl))
    · dsimp only at h
      obtain ⟨he, hfin⟩ := hp
      obtain rfl : e = .ret := he
      cases h
      exact Unw.ret (Fin_ret hfin)
theorem L_impl_upDiv {a_0 : Int} {b_1 : Int} {r : Int} (h : impl_upDiv a_0 b_1 = some r) : FL Try.prog cfg 172 [.im 2 false [.sc (.int .i64 a_0)], .im 2 false [.sc (.int .i64 b_1)]] = some ([(false, [.im 0 (.sc (.int .i64 r))])], []) := by
  unfold impl_upDiv at h
  refine FL_goS (A := [(0, .v false [.im 2 (.sc (.int .i64 a_0))]), (1, .v false [.im 2 (.sc (.int .i64 b_1))])]) (B := [(0, none), (1, none)]) (nt := 11) rfl rfl Try.func172 rfl rfl rfl rfl ?_
  refine Go.seq ?_
  refine Go.r0 c172 rfl rfl (sq z172 (oAsI rfl rfl) <| nl) ?_
  refine Unw.seq ?_
  refine Go.seq ?_
  obtain ⟨x10, hx10, h⟩ := bs h
  refine Go.r0 c172 rfl rfl (sq z172 (oMv rfl rfl) <| sq z172 (oMv rfl rfl) <| sq z172 (oBi rfl rfl rfl rfl) <| sq z172 (oBi rfl rfl rfl rfl) <| sq z172 (oMv rfl rfl) <| sq z172 (oQuo rfl hx10 rfl rfl) <| sq z172 (oAsI rfl rfl) <| nl) ?_
  refine Unw.seq ?_
  refine Go.ret (Unw.ret ?_)
  cases h
  exact Fin_ret (fin_of rfl rF172 rfl (by kernel_rfl))
theorem L_impl_wear {c_0 : S_Cutting} {r : Int} (h : impl_wear c_0 = some r) : FL Try.prog cfg 199 [.im 2 true [.sc (.string c_0.Name), .sc (.int .i64 c_0.Length), .sc (.int .i64 c_0.Hardness)]] = some ([(false, [.im 0 (.sc (.int .i64 r))])], []) := by
  unfold impl_wear at h
  refine FL_goS (A := [(0, .v true [.im 2 (.sc (.string c_0.Name)), .im 2 (.sc (.int .i64 c_0.Length)), .im 2 (.sc (.int .i64 c_0.Hardness))])]) (B := [(0, none)]) (nt := 9) rfl rfl Try.func199 rfl rfl rfl rfl ?_
  refine Go.seq ?_
  refine Go.r0 c199 rfl rfl (sq z199 (oBx rfl tF163 rfl (tkI (tkI (tkI tk0)))) <| sq z199 (oAsI rfl rfl) <| nl) ?_
  refine Unw.seq ?_
  refine Go.seq ?_
  obtain ⟨x8, hx8, h⟩ := bs h
  refine Go.r0 c199 rfl rfl (sq z199 (oFA (r' := .mp 1 0 1) rfl fF163_1 rfl rfl) <| sq z199 (oLd (cs := [.im 0 _]) rfl tF2 rfl rfl) <| sq z199 (oFA (r' := .mp 1 0 2) rfl fF163_2 rfl rfl) <| sq z199 (oLd (cs := [.im 0 _]) rfl tF2 rfl rfl) <| sq z199 (oBi rfl rfl rfl rfl) <| sq z199 (oCa (xs := [.v false [.im 0 _], .v false [.im 0 _]]) (vs := [(false, [.im 0 _])]) (v := .v false [.im 0 _]) (L_impl_upDiv hx8) (.inl rfl) rfl kF172_2_2 rfl (ppC rfl (ppC rfl pp0)) rfl rfl pb0 rfl rfl rfl) <| sq z199 (oAsI rfl rfl) <| nl) ?_
  refine Unw.seq ?_
  refine Go.ret (Unw.ret ?_)
  cases h
  exact Fin_ret (fin_of rfl rF199 rfl (by kernel_rfl))
theorem L_impl_wears {b_0 : S_Blade} {list_1 : (List S_Cutting)} {r : ((List Int) × Int)} (h : impl_wears b_0 list_1 = some r) : FL Try.prog cfg 114 [.im 2 true [.sc (.string b_0.Name), .sc (.int .i64 b_0.Life), .sc (.int .i64 b_0.Price), .sc (.int .i64 b_0.Speed)], .im 2 false [.row 3 (List.map e_S_Cutting list_1)]] = some ([(false, [.ow 0 1 (List.map eI r.1)]), (false, [.im 0 (.sc (.int .i64 r.2))])], []) := by
  unfold impl_wears at h
  refine FL_goS (A := [(0, .v true [.im 2 (.sc (.string b_0.Name)), .im 2 (.sc (.int .i64 b_0.Life)), .im 2 (.sc (.int .i64 b_0.Price)), .im 2 (.sc (.int .i64 b_0.Speed))]), (1, .v false [.im 2 (.row 3 (List.map e_S_Cutting list_1))])]) (B := [(0, none), (1, none)]) (nt := 36) rfl rfl Try.func114 rfl rfl rfl rfl ?_
  refine Go.seq ?_
  refine Go.r0 c114 rfl rfl (sq z114 (oBx rfl tF54 rfl (tkI (tkI (tkI (tkI tk0))))) <| sq z114 (oAsN rfl rfl eF27) <| sq z114 (oAsI rfl rfl) <| nl) ?_
  refine Unw.seq ?_
  refine Go.seq ?_
  refine Go.seq ?_
  obtain ⟨x10, hx10, h⟩ := bs h
  obtain ⟨t_16_m1, hm9, h⟩ := bs h
  refine Go.rX c114 rfl rfl rfl (mk [(1, .v false [.im 2 (.row 3 (List.map e_S_Cutting list_1))]), (2, .v false [.mp 2 0 0]), (16, bv t_16_m1)] [(2, some ⟨0, 0, false, true, false, true, [⟨.imm, 0, 0, .sc (.string b_0.Name)⟩, ⟨.imm, 0, 0, .sc (.int .i64 b_0.Life)⟩, ⟨.imm, 0, 0, .sc (.int .i64 b_0.Price)⟩, ⟨.imm, 0, 0, .sc (.int .i64 b_0.Speed)⟩]⟩)]) ?_ ?_
  · by_cases hc1 : x10 = true
    · rw [if_pos hc1] at hm9
      obtain ⟨x14, hx14, hm9⟩ := bs hm9
      cases hm9
      exact ⟨_, sq z114 (oLd (cs := [.im 0 _, .im 0 _, .im 0 _, .im 0 _]) rfl tF54 rfl rfl) <| sq z114 (oCa (xs := [.v true [.im 0 _, .im 0 _, .im 0 _, .im 0 _]]) (vs := [(false, [.im 0 _])]) (v := .v false [.im 0 _]) (L_impl_ValidBlade hx10) (.inl rfl) rfl kF197_54 rfl (ppC rfl pp0) rfl rfl pb0 rfl rfl rfl) <| sq z114 (oUn rfl rfl rfl) <| sq z114 (oMv rfl rfl) <| sgT z114 rfl rfl (nF (Iff.rfl.2 hc1)) (oMv rfl rfl) <| sgT z114 rfl rfl (nF (Iff.rfl.2 hc1)) (oCa (xs := [.v false [.im 2 _]]) (vs := [(false, [.im 0 _])]) (v := .v false [.im 0 _]) (L_impl_ValidCuttings hx14) (.inl rfl) rfl kF198_56 rfl (ppC rfl pp0) rfl rfl pb0 rfl rfl rfl) <| sgT z114 rfl rfl (nF (Iff.rfl.2 hc1)) (oUn rfl rfl rfl) <| sq z114 (oPkF rfl rfl (nF (Iff.rfl.2 hc1)) rfl) <| nl, (by kernel_rfl)⟩
    · rw [if_neg hc1] at hm9
      cases hm9
      exact ⟨_, sq z114 (oLd (cs := [.im 0 _, .im 0 _, .im 0 _, .im 0 _]) rfl tF54 rfl rfl) <| sq z114 (oCa (xs := [.v true [.im 0 _, .im 0 _, .im 0 _, .im 0 _]]) (vs := [(false, [.im 0 _])]) (v := .v false [.im 0 _]) (L_impl_ValidBlade hx10) (.inl rfl) rfl kF197_54 rfl (ppC rfl pp0) rfl rfl pb0 rfl rfl rfl) <| sq z114 (oUn rfl rfl rfl) <| sq z114 (oMv rfl rfl) <| sgF rfl rfl (nT (byF Iff.rfl hc1)) rfl <| sgF rfl rfl (nT (byF Iff.rfl hc1)) rfl <| sgF rfl rfl (nT (byF Iff.rfl hc1)) rfl <| sq z114 (oPkT rfl rfl (nT (byF Iff.rfl hc1)) rfl) <| nl, (by kernel_rfl)⟩
  · refine Unw.seq ?_
    by_cases hc2 : t_16_m1 = true
    · rw [if_pos hc2] at h
      refine Go.condT rfl (Iff.rfl.2 hc2) ?_
      refine Go.seq ?_
      refine Go.r0 c114 rfl rfl (sq z114 (oAsN rfl rfl eF27) <| sq z114 (oAsI rfl rfl) <| nl) ?_
      refine Unw.seq ?_
      refine Go.ret (Unw.ret ?_)
      cases h
      exact Fin_ret (fin_of rfl rF114 rfl (by kernel_rfl))
    · rw [if_neg hc2] at h
      refine Go.condF rfl (byF Iff.rfl hc2) ?_
      refine Go.skip ?_
      refine Unw.seq ?_
      refine Go.seq ?_
      refine Go.r0 c114 rfl rfl (sq z114 (oBS (es := List.map eI ([] : List Int)) rfl sF27 rfl pt0 (flat0 rfl fun _ => rfl)) <| sq z114 (oAsO rfl rfl rfl rfl rfl) <| nl) ?_
      refine Unw.seq ?_
      refine Go.seq ?_
      refine Go.seq ?_
      refine Go.r0 c114 rfl rfl (sq z114 (oMv rfl rfl) <| sq z114 (oLnI rfl rfl uF56 rfl) <| sq z114 (oMv rfl rfl) <| nl) ?_
      refine Unw.seq ?_
      refine Go.block ?_
      obtain ⟨o, hl, h⟩ := bs h
      refine Go.lp c114 rfl _ (fun (s : (Int × (List Int))) => match s with | (t_20_l5, out_o6_l5) => mk [(2, .v false [.mp 2 0 0]), (6, .v false [.own 6 0 0]), (18, .v false [.im 2 (.row 3 (List.map e_S_Cutting list_1))]), (19, iv (list_1.length : Int)), (20, iv t_20_l5)] [(2, some ⟨0, 0, false, true, false, true, [⟨.imm, 0, 0, .sc (.string b_0.Name)⟩, ⟨.imm, 0, 0, .sc (.int .i64 b_0.Life)⟩, ⟨.imm, 0, 0, .sc (.int .i64 b_0.Price)⟩, ⟨.imm, 0, 0, .sc (.int .i64 b_0.Speed)⟩]⟩), (6, some ⟨0, 0, false, false, false, false, [⟨.sh, 0, 0, .row 1 (List.map eI out_o6_l5)⟩]⟩)]) (fun (o : ((List Int) ⊕ ((List Int) × Int))) (p : Ex × St) => match o with | (.inl out_o6_e0_5) => p.1 = .exit 0 ∧ p.2.norm ([6], [6]) = mk [(6, .v false [.own 6 0 0])] [(6, some ⟨0, 0, false, false, false, false, [⟨.sh, 0, 0, .row 1 (List.map eI out_o6_e0_5)⟩]⟩)] | (.inr r2) => p.1 = .ret ∧ fin Try.prog cfg 114 Try.f114 [.im 2 true [.sc (.string b_0.Name), .sc (.int .i64 b_0.Life), .sc (.int .i64 b_0.Price), .sc (.int .i64 b_0.Speed)], .im 2 false [.row 3 (List.map e_S_Cutting list_1)]] p.2 = some ([(false, [.ow 0 1 (List.map eI r2.1)]), (false, [.im 0 (.sc (.int .i64 r2.2))])], [])) hl (by kernel_rfl) ?_ ?_ ?_
      · intro o p hp e
        rcases o with out_o6_e0_5 | r2 <;> exact nomatch (hp.1.symm.trans e)
      · rintro ⟨t_20_l5, out_o6_l5⟩ o h
        unfold impl_wears_l5 at h
        dsimp only at h
        refine Go.seq ?_
        refine Go.r0 c114 rfl rfl (sq z114 (oBi rfl rfl rfl rfl) <| nl) ?_
        refine Unw.seq ?_
        refine Go.seq ?_
        by_cases hc7 : t_20_l5 < (list_1.length : Int)
        · rw [if_pos hc7] at h
          refine Go.condT rfl (iDec.2 hc7) ?_
          refine Go.skip ?_
          refine Unw.seq ?_
          refine Go.seq ?_
          refine Go.block ?_
          refine Go.seq ?_
          obtain ⟨x22, hx22, h⟩ := bs h
          refine Go.r0 c114 rfl rfl (sq z114 (oIAI rfl hx22 sF56 rfl rfl) <| sq z114 (oLd (cs := [.im 2 _, .im 2 _, .im 2 _]) rfl tF163 rfl rfl) <| sq z114 (oAl rfl tF163 (tkI (tkI (tkI tk0)))) <| sq z114 (oSt tF163 rfl rfl rfl (tkI (tkI (tkI tk0))) rfl rfl rfl) <| nl) ?_
          refine Unw.seq ?_
          refine Go.seq ?_
          refine Go.seq ?_
          obtain ⟨x25, hx25, h⟩ := bs h
          refine Go.dr c114 rfl rfl rfl (st1 := mk [(2, .v false [.mp 2 0 0]), (6, .v false [.own 6 0 0]), (8, .v false [.mp 8 0 0]), (18, .v false [.im 2 (.row 3 (List.map e_S_Cutting list_1))]), (19, iv (list_1.length : Int)), (20, iv t_20_l5)] [(2, some ⟨0, 0, false, true, false, true, [⟨.imm, 0, 0, .sc (.string b_0.Name)⟩, ⟨.imm, 0, 0, .sc (.int .i64 b_0.Life)⟩, ⟨.imm, 0, 0, .sc (.int .i64 b_0.Price)⟩, ⟨.imm, 0, 0, .sc (.int .i64 b_0.Speed)⟩]⟩), (6, some ⟨0, 0, false, false, false, false, [⟨.sh, 0, 0, .row 1 (List.map eI out_o6_l5)⟩]⟩), (8, some ⟨0, 0, false, true, false, true, [⟨.imm, 0, 0, .sc (.string x22.Name)⟩, ⟨.imm, 0, 0, .sc (.int .i64 x22.Length)⟩, ⟨.imm, 0, 0, .sc (.int .i64 x22.Hardness)⟩]⟩)]) (by kernel_rfl) (mk [(2, .v false [.mp 2 0 0]), (6, .v false [.own 6 0 0]), (8, .v false [.mp 8 0 0]), (18, .v false [.im 2 (.row 3 (List.map e_S_Cutting list_1))]), (19, iv (list_1.length : Int)), (20, iv t_20_l5), (28, bv (decide (x25 > b_0.Life)))] [(2, some ⟨0, 0, false, true, false, true, [⟨.imm, 0, 0, .sc (.string b_0.Name)⟩, ⟨.imm, 0, 0, .sc (.int .i64 b_0.Life)⟩, ⟨.imm, 0, 0, .sc (.int .i64 b_0.Price)⟩, ⟨.imm, 0, 0, .sc (.int .i64 b_0.Speed)⟩]⟩), (6, some ⟨0, 0, false, false, false, false, [⟨.sh, 0, 0, .row 1 (List.map eI out_o6_l5)⟩]⟩), (8, some ⟨0, 0, false, true, false, true, [⟨.imm, 0, 0, .sc (.string x22.Name)⟩, ⟨.imm, 0, 0, .sc (.int .i64 x22.Length)⟩, ⟨.imm, 0, 0, .sc (.int .i64 x22.Hardness)⟩]⟩)]) (sT rfl (dN z114 rfl (oLd (cs := [.im 0 _, .im 0 _, .im 0 _]) rfl tF163 rfl rfl)) <| sT rfl (dN z114 rfl (oFA (r' := .mp 2 0 1) rfl fF54_1 rfl rfl)) <| sT rfl (dN z114 rfl (oLd (cs := [.im 0 _]) rfl tF2 rfl rfl)) <| sS (dN z114 rfl (oCa (xs := [.v true [.im 0 _, .im 0 _, .im 0 _]]) (vs := [(false, [.im 0 _])]) (v := .v false [.im 0 _]) (L_impl_wear hx25) (.inl rfl) rfl kF199_163 rfl (ppC rfl pp0) rfl rfl pb0 rfl rfl rfl)) trivial (sT rfl (dN z114 rfl (oBi rfl rfl rfl rfl)) <| sD (by kernel_rfl))) ?_
          refine Unw.seq ?_
          by_cases hc8 : x25 > b_0.Life
          · rw [if_pos hc8] at h
            refine Go.condT rfl (iDec.2 hc8) ?_
            refine Go.seq ?_
            refine Go.r0 c114 rfl rfl (sq z114 (oAsN rfl rfl eF27) <| sq z114 (oAsI rfl rfl) <| nl) ?_
            refine Unw.seq ?_
            refine Go.ret (Unw.ret ?_)
            cases h
            exact ⟨rfl, (fin_of rfl rF114 rfl (by kernel_rfl))⟩
          · rw [if_neg hc8] at h
            refine Go.condF rfl (byF iDec hc8) ?_
            refine Go.skip ?_
            refine Unw.seq ?_
            obtain ⟨x31, hx31, h⟩ := bs h
            obtain ⟨x33, hx33, h⟩ := bs h
            refine Go.r0 c114 rfl rfl (sq z114 (oMv rfl rfl) <| sq z114 (oLd (cs := [.im 0 _, .im 0 _, .im 0 _]) rfl tF163 rfl rfl) <| sq z114 (oCa (xs := [.v true [.im 0 _, .im 0 _, .im 0 _]]) (vs := [(false, [.im 0 _])]) (v := .v false [.im 0 _]) (L_impl_wear hx31) (.inl rfl) rfl kF199_163 rfl (ppC rfl pp0) rfl rfl pb0 rfl rfl rfl) <| sq z114 (oBS (es := List.map eI ([x31] : List Int)) rfl sF27 rfl (ptC rfl (fxI fx0) rfl pt0) (flat0 rfl fun _ => rfl)) <| sq z114 (oApO (en := eI) (M := ([x31] : List Int)) rfl hx33 rfl sF27 rfl rfl uF27 (.inl ⟨_, rfl⟩) rfl rfl rfl rfl (el_own rfl rfl) (flat0 rfl fun _ => rfl)) <| sq z114 (oAsO rfl rfl rfl rfl rfl) <| nl) ?_
            refine Unw.blk ?_
            refine Unw.seq ?_
            refine Go.r0 c114 rfl rfl (sq z114 (oBi rfl rfl rfl rfl) <| sq z114 (oMv rfl rfl) <| nl) ?_
            refine Unw.nil ?_
            cases h
            exact ⟨rfl, (by kernel_rfl)⟩
        · rw [if_neg hc7] at h
          refine Go.condF rfl (byF iDec hc7) ?_
          refine Go.exit ?_
          refine Unw.seqx ?_
          refine Unw.nil ?_
          cases h
          exact ⟨rfl, (by kernel_rfl)⟩
      · rintro ⟨e, st⟩ hp
        rcases o with out_o6_e0_5 | r2
        · dsimp only at h
          obtain ⟨he, hst⟩ := hp
          obtain rfl : e = .exit 0 := he
          refine Unw.blkx ?_
          refine Unw.seq ?_
          refine Go.seq ?_
          refine Go.r1 c114 rfl rfl hst (sq z114 (oMv rfl rfl) <| sq z114 (oAsO rfl rfl rfl rfl rfl) <| sq z114 (oAsI rfl rfl) <| nl) ?_
          refine Unw.seq ?_
          refine Go.ret (Unw.ret ?_)
          cases h
          exact Fin_ret (fin_of rfl rF114 rfl (by kernel_rfl))
        · dsimp only at h
          obtain ⟨he, hfin⟩ := hp
          obtain rfl : e = .ret := he
          cases h
          exact Unw.ret (Fin_ret hfin)
theorem L_impl_bladeSearch_run_F {self : (S_bladeSearch × (List Int) × (List Int) × Int) → Option ((List Int) × Int × S_bladeSearch)}  (ih : ∀ {s_0 : S_bladeSearch} {choice_1 : (List Int)} {used_2 : (List Int)} {most_3 : Int} {r : ((List Int) × Int × S_bladeSearch)}, self (s_0, choice_1, used_2, most_3) = some r → FL Try.prog cfg 115 [.ptr true [(.imm, .row 1 (List.map eI s_0.wears)), (.imm, .sc (.int .i64 s_0.life)), (.imm, .sc (.int .i64 s_0.left))], .mv 1 (List.map eI choice_1), .im 2 false [.row 1 (List.map eI used_2)], .im 2 false [.sc (.int .i64 most_3)]] = some ([(false, [.ow 0 1 (List.map eI r.1)]), (false, [.im 0 (.sc (.int .i64 r.2.1))])], [.ptr true [(.imm, .row 1 (List.map eI r.2.2.wears)), (.imm, .sc (.int .i64 r.2.2.life)), (.imm, .sc (.int .i64 r.2.2.left))]])) {s_0 : S_bladeSearch} {choice_1 : (List Int)} {used_2 : (List Int)} {most_3 : Int} {r : ((List Int) × Int × S_bladeSearch)} (h : impl_bladeSearch_run_F self s_0 choice_1 used_2 most_3 = some r) : FL Try.prog cfg 115 [.ptr true [(.imm, .row 1 (List.map eI s_0.wears)), (.imm, .sc (.int .i64 s_0.life)), (.imm, .sc (.int .i64 s_0.left))], .mv 1 (List.map eI choice_1), .im 2 false [.row 1 (List.map eI used_2)], .im 2 false [.sc (.int .i64 most_3)]] = some ([(false, [.ow 0 1 (List.map eI r.1)]), (false, [.im 0 (.sc (.int .i64 r.2.1))])], [.ptr true [(.imm, .row 1 (List.map eI r.2.2.wears)), (.imm, .sc (.int .i64 r.2.2.life)), (.imm, .sc (.int .i64 r.2.2.left))]]) := by
  unfold impl_bladeSearch_run_F at h
  refine FL_goS (A := [(0, .v false [.mp 0 0 0]), (1, .v false [.own 1 0 0]), (2, .v false [.im 2 (.row 1 (List.map eI used_2))]), (3, .v false [.im 2 (.sc (.int .i64 most_3))])]) (B := [(0, some ⟨0, 0, true, true, false, true, [⟨.imm, 0, 1, .row 1 (List.map eI s_0.wears)⟩, ⟨.imm, 0, 0, .sc (.int .i64 s_0.life)⟩, ⟨.imm, 0, 0, .sc (.int .i64 s_0.left)⟩]⟩), (1, some ⟨0, 0, false, false, false, false, [⟨.sh, 0, 0, .row 1 (List.map eI choice_1)⟩]⟩), (2, none), (3, none)]) (nt := 98) rfl rfl Try.func115 rfl rfl rfl rfl ?_
  refine Go.seq ?_
  refine Go.r0 c115 rfl rfl (sq z115 (oAsN rfl rfl eF27) <| sq z115 (oAsI rfl rfl) <| nl) ?_
  refine Unw.seq ?_
  refine Go.seq ?_
  refine Go.seq ?_
  refine Go.r0 c115 rfl rfl (sq z115 (oMv rfl rfl) <| sq z115 (oLnO rfl rfl uF27 rfl rfl rfl (fun e => nomatch e)) <| sq z115 (oMv rfl rfl) <| sq z115 (oNl rfl rfl rfl) <| sq z115 (oFA (r' := .mp 0 0 0) rfl fF168_0 rfl rfl) <| sq z115 (oLd (cs := [.im 1 _]) rfl tF27 rfl rfl) <| sq z115 (oLnI rfl rfl uF27 rfl) <| sq z115 (oBi rfl rfl rfl rfl) <| nl) ?_
  refine Unw.seq ?_
  by_cases hc1 : (choice_1.length : Int) = (s_0.wears.length : Int)
  · rw [if_pos hc1] at h
    refine Go.condT rfl (iEq.2 hc1) ?_
    refine Go.seq ?_
    refine Go.r0 c115 rfl rfl (sq z115 (oMv rfl rfl) <| sq z115 (oAsO rfl rfl rfl rfl rfl) <| sq z115 (oAsI rfl rfl) <| nl) ?_
    refine Unw.seq ?_
    refine Go.ret (Unw.ret ?_)
    cases h
    exact Fin_ret (fin_of rfl rF115 rfl (by kernel_rfl))
  · rw [if_neg hc1] at h
    refine Go.condF rfl (byF iEq hc1) ?_
    refine Go.skip ?_
    refine Unw.seq ?_
    refine Go.seq ?_
    obtain ⟨x30, hx30, h⟩ := bs h
    refine Go.r0 c115 rfl rfl (sq z115 (oMv rfl rfl) <| sq z115 (oNl rfl rfl rfl) <| sq z115 (oFA (r' := .mp 0 0 0) rfl fF168_0 rfl rfl) <| sq z115 (oLd (cs := [.im 1 _]) rfl tF27 rfl rfl) <| sq z115 (oMv rfl rfl) <| sq z115 (oLnO rfl rfl uF27 rfl rfl rfl (fun e => nomatch e)) <| sq z115 (oIAI rfl hx30 sF27 rfl rfl) <| sq z115 (oLd (cs := [.im 1 _]) rfl tF2 rfl rfl) <| sq z115 (oAsI rfl rfl) <| nl) ?_
    refine Unw.seq ?_
    refine Go.seq ?_
    refine Go.seq ?_
    refine Go.r0 c115 rfl rfl (sq z115 (oAsI rfl rfl) <| nl) ?_
    refine Unw.seq ?_
    refine Go.block ?_
    obtain ⟨o, hl, h⟩ := bs h
    refine Go.lp c115 rfl _ (fun (s : (Int × (List Int) × Int × Int)) => match s with | (k_11_l5, s_o0_0_l5, s_o0_1_l5, s_o0_2_l5) => mk [(0, .v false [.mp 0 0 0]), (1, .v false [.own 1 0 0]), (2, .v false [.im 2 (.row 1 (List.map eI used_2))]), (3, iv most_3), (10, iv x30), (11, iv k_11_l5)] [(0, some ⟨0, 0, true, true, false, true, [⟨.imm, 0, 1, .row 1 (List.map eI s_o0_0_l5)⟩, ⟨.imm, 0, 0, .sc (.int .i64 s_o0_1_l5)⟩, ⟨.imm, 0, 0, .sc (.int .i64 s_o0_2_l5)⟩]⟩), (1, some ⟨0, 0, false, false, false, false, [⟨.sh, 0, 0, .row 1 (List.map eI choice_1)⟩]⟩)]) (fun (o : (((List Int) × Int × Int) ⊕ ((List Int) × Int × S_bladeSearch))) (p : Ex × St) => match o with | (.inl (s_o0_0_e0_5, s_o0_1_e0_5, s_o0_2_e0_5)) => p.1 = .exit 0 ∧ p.2.norm ([], [0]) = mk [] [(0, some ⟨0, 0, true, true, false, true, [⟨.imm, 0, 1, .row 1 (List.map eI s_o0_0_e0_5)⟩, ⟨.imm, 0, 0, .sc (.int .i64 s_o0_1_e0_5)⟩, ⟨.imm, 0, 0, .sc (.int .i64 s_o0_2_e0_5)⟩]⟩)] | (.inr r2) => p.1 = .ret ∧ fin Try.prog cfg 115 Try.f115 [.ptr true [(.imm, .row 1 (List.map eI s_0.wears)), (.imm, .sc (.int .i64 s_0.life)), (.imm, .sc (.int .i64 s_0.left))], .mv 1 (List.map eI choice_1), .im 2 false [.row 1 (List.map eI used_2)], .im 2 false [.sc (.int .i64 most_3)]] p.2 = some ([(false, [.ow 0 1 (List.map eI r2.1)]), (false, [.im 0 (.sc (.int .i64 r2.2.1))])], [.ptr true [(.imm, .row 1 (List.map eI r2.2.2.wears)), (.imm, .sc (.int .i64 r2.2.2.life)), (.imm, .sc (.int .i64 r2.2.2.left))]])) hl (by kernel_rfl) ?_ ?_ ?_
    · intro o p hp e
      rcases o with ⟨s_o0_0_e0_5, s_o0_1_e0_5, s_o0_2_e0_5⟩ | r2 <;> exact nomatch (hp.1.symm.trans e)
    · rintro ⟨k_11_l5, s_o0_0_l5, s_o0_1_l5, s_o0_2_l5⟩ o h
      unfold impl_bladeSearch_run_l5 at h
      dsimp only at h
      refine Go.seq ?_
      refine Go.seq ?_
      refine Go.rX c115 rfl rfl rfl (mk [(0, .v false [.mp 0 0 0]), (1, .v false [.own 1 0 0]), (2, .v false [.im 2 (.row 1 (List.map eI used_2))]), (3, iv most_3), (10, iv x30), (11, iv k_11_l5), (40, bv ((decide (k_11_l5 ≤ (used_2.length : Int))) && (decide (k_11_l5 < most_3))))] [(0, some ⟨0, 0, true, true, false, true, [⟨.imm, 0, 1, .row 1 (List.map eI s_o0_0_l5)⟩, ⟨.imm, 0, 0, .sc (.int .i64 s_o0_1_l5)⟩, ⟨.imm, 0, 0, .sc (.int .i64 s_o0_2_l5)⟩]⟩), (1, some ⟨0, 0, false, false, false, false, [⟨.sh, 0, 0, .row 1 (List.map eI choice_1)⟩]⟩)]) ?_ ?_
      · by_cases hc14 : k_11_l5 ≤ (used_2.length : Int)
        · exact ⟨_, sq z115 (oMv rfl rfl) <| sq z115 (oMv rfl rfl) <| sq z115 (oLnI rfl rfl uF27 rfl) <| sq z115 (oBi rfl rfl rfl rfl) <| sq z115 (oMv rfl rfl) <| sgT z115 rfl rfl (iDec.2 hc14) (oMv rfl rfl) <| sgT z115 rfl rfl (iDec.2 hc14) (oMv rfl rfl) <| sgT z115 rfl rfl (iDec.2 hc14) (oBi rfl rfl rfl rfl) <| sq z115 (oPkT rfl rfl (iDec.2 hc14) rfl) <| nl, (Eq.trans (b := (fun t_40_m5 : Bool => mk [(0, .v false [.mp 0 0 0]), (1, .v false [.own 1 0 0]), (2, .v false [.im 2 (.row 1 (List.map eI used_2))]), (3, iv most_3), (10, iv x30), (11, iv k_11_l5), (40, bv t_40_m5)] [(0, some ⟨0, 0, true, true, false, true, [⟨.imm, 0, 1, .row 1 (List.map eI s_o0_0_l5)⟩, ⟨.imm, 0, 0, .sc (.int .i64 s_o0_1_l5)⟩, ⟨.imm, 0, 0, .sc (.int .i64 s_o0_2_l5)⟩]⟩), (1, some ⟨0, 0, false, false, false, false, [⟨.sh, 0, 0, .row 1 (List.map eI choice_1)⟩]⟩)]) (decide (k_11_l5 < most_3))) (by kernel_rfl) (congrArg (fun t_40_m5 : Bool => mk [(0, .v false [.mp 0 0 0]), (1, .v false [.own 1 0 0]), (2, .v false [.im 2 (.row 1 (List.map eI used_2))]), (3, iv most_3), (10, iv x30), (11, iv k_11_l5), (40, bv t_40_m5)] [(0, some ⟨0, 0, true, true, false, true, [⟨.imm, 0, 1, .row 1 (List.map eI s_o0_0_l5)⟩, ⟨.imm, 0, 0, .sc (.int .i64 s_o0_1_l5)⟩, ⟨.imm, 0, 0, .sc (.int .i64 s_o0_2_l5)⟩]⟩), (1, some ⟨0, 0, false, false, false, false, [⟨.sh, 0, 0, .row 1 (List.map eI choice_1)⟩]⟩)]) (by first | rfl | (simp [(iDec.2 hc14)]; done) | (simp [(iDec.2 hc14)]; omega))))⟩
        · exact ⟨_, sq z115 (oMv rfl rfl) <| sq z115 (oMv rfl rfl) <| sq z115 (oLnI rfl rfl uF27 rfl) <| sq z115 (oBi rfl rfl rfl rfl) <| sq z115 (oMv rfl rfl) <| sgF rfl rfl (byF iDec hc14) rfl <| sgF rfl rfl (byF iDec hc14) rfl <| sgF rfl rfl (byF iDec hc14) rfl <| sq z115 (oPkF rfl rfl (byF iDec hc14) rfl) <| nl, (Eq.trans (b := (fun t_40_m5 : Bool => mk [(0, .v false [.mp 0 0 0]), (1, .v false [.own 1 0 0]), (2, .v false [.im 2 (.row 1 (List.map eI used_2))]), (3, iv most_3), (10, iv x30), (11, iv k_11_l5), (40, bv t_40_m5)] [(0, some ⟨0, 0, true, true, false, true, [⟨.imm, 0, 1, .row 1 (List.map eI s_o0_0_l5)⟩, ⟨.imm, 0, 0, .sc (.int .i64 s_o0_1_l5)⟩, ⟨.imm, 0, 0, .sc (.int .i64 s_o0_2_l5)⟩]⟩), (1, some ⟨0, 0, false, false, false, false, [⟨.sh, 0, 0, .row 1 (List.map eI choice_1)⟩]⟩)]) false) (by kernel_rfl) (congrArg (fun t_40_m5 : Bool => mk [(0, .v false [.mp 0 0 0]), (1, .v false [.own 1 0 0]), (2, .v false [.im 2 (.row 1 (List.map eI used_2))]), (3, iv most_3), (10, iv x30), (11, iv k_11_l5), (40, bv t_40_m5)] [(0, some ⟨0, 0, true, true, false, true, [⟨.imm, 0, 1, .row 1 (List.map eI s_o0_0_l5)⟩, ⟨.imm, 0, 0, .sc (.int .i64 s_o0_1_l5)⟩, ⟨.imm, 0, 0, .sc (.int .i64 s_o0_2_l5)⟩]⟩), (1, some ⟨0, 0, false, false, false, false, [⟨.sh, 0, 0, .row 1 (List.map eI choice_1)⟩]⟩)]) (by first | rfl | (simp [(byF iDec hc14)]; done) | (simp [(byF iDec hc14)]; omega))))⟩
      · refine Unw.seq ?_
        by_cases hc15 : (k_11_l5 ≤ (used_2.length : Int) ∧ k_11_l5 < most_3)
        · rw [if_pos hc15] at h
          refine Go.condT rfl ((iAnd iDec iDec).2 hc15) ?_
          refine Go.skip ?_
          refine Unw.seq ?_
          refine Go.seq ?_
          refine Go.join (fun st => ∃ s_o0_0_r6, ∃ s_o0_1_r6, ∃ s_o0_2_r6, impl_bladeSearch_run_k6 self k_11_l5 s_o0_0_r6 s_o0_1_r6 s_o0_2_r6 = some o ∧ st.norm ([0, 1, 2, 3, 10, 11], [0, 1]) = mk [(0, .v false [.mp 0 0 0]), (1, .v false [.own 1 0 0]), (2, .v false [.im 2 (.row 1 (List.map eI used_2))]), (3, iv most_3), (10, iv x30), (11, iv k_11_l5)] [(0, some ⟨0, 0, true, true, false, true, [⟨.imm, 0, 1, .row 1 (List.map eI s_o0_0_r6)⟩, ⟨.imm, 0, 0, .sc (.int .i64 s_o0_1_r6)⟩, ⟨.imm, 0, 0, .sc (.int .i64 s_o0_2_r6)⟩]⟩), (1, some ⟨0, 0, false, false, false, false, [⟨.sh, 0, 0, .row 1 (List.map eI choice_1)⟩]⟩)]) ?_ ?_
          · rintro st ⟨s_o0_0_r6, s_o0_1_r6, s_o0_2_r6, h, hst⟩
            unfold impl_bladeSearch_run_k6 at h
            refine Unw.seq ?_
            refine Go.r1 c115 rfl rfl hst (sq z115 (oMv rfl rfl) <| sq z115 (oBi rfl rfl rfl rfl) <| sq z115 (oAsI rfl rfl) <| nl) ?_
            refine Unw.nil ?_
            cases h
            exact ⟨rfl, (by kernel_rfl)⟩
          · intro K20
            refine Go.block ?_
            refine Go.seq ?_
            obtain ⟨x44, hx44, h⟩ := bs h
            refine Go.r0 c115 rfl rfl (sq z115 (oMv rfl rfl) <| sq z115 (oCr (xs := [.v false [.im 2 _]]) (vs := [(false, [.own 44 0 0])]) (v := .v false [.own 44 0 0]) (c := ⟨.sh, 0, _⟩) (cs := []) (FL_cloneN (en := eI) (L := used_2) rfl hx44 (fun _ => rfl)) (.inl rfl) rfl kF187_27 rfl (ppC rfl pp0) rfl rfl pb0 rfl rfl rfl) <| sq z115 (oAsO rfl rfl rfl rfl rfl) <| nl) ?_
            refine Unw.seq ?_
            refine Go.seq ?_
            refine Go.seq ?_
            refine Go.r0 c115 rfl rfl (sq z115 (oMv rfl rfl) <| sq z115 (oMv rfl rfl) <| sq z115 (oLnI rfl rfl uF27 rfl) <| sq z115 (oBi rfl rfl rfl rfl) <| nl) ?_
            refine Unw.seq ?_
            refine Go.join (fun st => ∃ next_o12_r10, impl_bladeSearch_run_k10 self choice_1 k_11_l5 most_3 s_o0_0_l5 s_o0_1_l5 s_o0_2_l5 x30 next_o12_r10 = some o ∧ st.norm ([0, 1, 2, 3, 10, 11, 12], [0, 1, 12]) = mk [(0, .v false [.mp 0 0 0]), (1, .v false [.own 1 0 0]), (2, .v false [.im 2 (.row 1 (List.map eI used_2))]), (3, iv most_3), (10, iv x30), (11, iv k_11_l5), (12, .v false [.own 12 0 0])] [(0, some ⟨0, 0, true, true, false, true, [⟨.imm, 0, 1, .row 1 (List.map eI s_o0_0_l5)⟩, ⟨.imm, 0, 0, .sc (.int .i64 s_o0_1_l5)⟩, ⟨.imm, 0, 0, .sc (.int .i64 s_o0_2_l5)⟩]⟩), (1, some ⟨0, 0, false, false, false, false, [⟨.sh, 0, 0, .row 1 (List.map eI choice_1)⟩]⟩), (12, some ⟨0, 0, false, false, false, false, [⟨.sh, 0, 0, .row 1 (List.map eI next_o12_r10)⟩]⟩)]) ?_ ?_
            · rintro st ⟨next_o12_r10, h, hst⟩
              unfold impl_bladeSearch_run_k10 at h
              refine Unw.seq ?_
              refine Go.seq ?_
              refine Go.seq ?_
              obtain ⟨x54, hx54, h⟩ := bs h
              refine Go.dr c115 rfl rfl rfl hst (mk [(0, .v false [.mp 0 0 0]), (1, .v false [.own 1 0 0]), (2, .v false [.im 2 (.row 1 (List.map eI used_2))]), (3, iv most_3), (10, iv x30), (11, iv k_11_l5), (12, .v false [.own 12 0 0]), (62, bv (decide ((w64 (x54 + x30)) > s_o0_1_l5)))] [(0, some ⟨0, 0, true, true, false, true, [⟨.imm, 0, 1, .row 1 (List.map eI s_o0_0_l5)⟩, ⟨.imm, 0, 0, .sc (.int .i64 s_o0_1_l5)⟩, ⟨.imm, 0, 0, .sc (.int .i64 s_o0_2_l5)⟩]⟩), (1, some ⟨0, 0, false, false, false, false, [⟨.sh, 0, 0, .row 1 (List.map eI choice_1)⟩]⟩), (12, some ⟨0, 0, false, false, false, false, [⟨.sh, 0, 0, .row 1 (List.map eI next_o12_r10)⟩]⟩)]) (sT rfl (dN z115 rfl (oMv rfl rfl)) <| sT rfl (dN z115 rfl (oMv rfl rfl)) <| sT rfl (dN z115 rfl (oIAO rfl hx54 sF27 rfl rfl rfl rfl)) <| sT rfl (dN z115 rfl (oLdE (cs := [.im 0 _]) rfl tF2 rfl rfl rfl (fun e => nomatch e) (rd_get hx54) rfl rfl)) <| sT rfl (dN z115 rfl (oMv rfl rfl)) <| sT rfl (dN z115 rfl (oBi rfl rfl rfl rfl)) <| sT rfl (dN z115 rfl (oMv rfl rfl)) <| sT rfl (dN z115 rfl (oNl rfl rfl rfl)) <| sT rfl (dN z115 rfl (oFA (r' := .mp 0 0 1) rfl fF168_1 rfl rfl)) <| sT rfl (dN z115 rfl (oLd (cs := [.im 0 _]) rfl tF2 rfl rfl)) <| sT rfl (dN z115 rfl (oBi rfl rfl rfl rfl)) <| sD (by kernel_rfl)) ?_
              refine Unw.seq ?_
              by_cases hc22 : (w64 (x54 + x30)) > s_o0_1_l5
              · rw [if_pos hc22] at h
                refine Go.condT rfl (iDec.2 hc22) ?_
                refine Go.exit ?_
                refine Unw.seqx ?_
                refine Unw.blkx ?_
                exact K20 _ ⟨s_o0_0_l5, s_o0_1_l5, s_o0_2_l5, h, (by kernel_rfl)⟩
              · rw [if_neg hc22] at h
                refine Go.condF rfl (byF iDec hc22) ?_
                refine Go.skip ?_
                refine Unw.seq ?_
                refine Go.seq ?_
                refine Go.seq ?_
                refine Go.r0 c115 rfl rfl (sq z115 (oMv rfl rfl) <| sq z115 (oNl rfl rfl rfl) <| sq z115 (oFA (r' := .mp 0 0 2) rfl fF168_2 rfl rfl) <| sq z115 (oLd (cs := [.im 0 _]) rfl tF2 rfl rfl) <| sq z115 (oBi rfl rfl rfl rfl) <| nl) ?_
                refine Unw.seq ?_
                by_cases hc23 : s_o0_2_l5 = 0
                · rw [if_pos hc23] at h
                  refine Go.condT rfl (iEq.2 hc23) ?_
                  refine Go.seq ?_
                  refine Go.r0 c115 rfl rfl (sq z115 (oAsN rfl rfl eF27) <| sq z115 (oAsI rfl rfl) <| nl) ?_
                  refine Unw.seq ?_
                  refine Go.ret (Unw.ret ?_)
                  cases h
                  exact ⟨rfl, (fin_of rfl rF115 rfl (by kernel_rfl))⟩
                · rw [if_neg hc23] at h
                  refine Go.condF rfl (byF iEq hc23) ?_
                  refine Go.skip ?_
                  refine Unw.seq ?_
                  refine Go.seq ?_
                  refine Go.r0 c115 rfl rfl (sq z115 (oMv rfl rfl) <| sq z115 (oNl rfl rfl rfl) <| sq z115 (oFA (r' := .mp 0 0 2) rfl fF168_2 rfl rfl) <| sq z115 (oLd (cs := [.im 0 _]) rfl tF2 rfl rfl) <| sq z115 (oBi rfl rfl rfl rfl) <| sq z115 (oNl rfl rfl rfl) <| sq z115 (oFA (r' := .mp 0 0 2) rfl fF168_2 rfl rfl) <| sq z115 (oSt tF2 rfl rfl rfl (tkI tk0) rfl rfl rfl) <| nl) ?_
                  refine Unw.seq ?_
                  refine Go.seq ?_
                  obtain ⟨x77, hx77, h⟩ := bs h
                  obtain ⟨x81, hx81, h⟩ := bs h
                  refine Go.r1 c115 rfl rfl (st1 := mk [(0, .v false [.mp 0 0 0]), (1, .v false [.own 1 0 0]), (2, .v false [.im 2 (.row 1 (List.map eI used_2))]), (3, iv most_3), (10, iv x30), (11, iv k_11_l5), (12, .v false [.own 12 0 0])] [(0, some ⟨0, 0, true, true, false, true, [⟨.imm, 0, 1, .row 1 (List.map eI s_o0_0_l5)⟩, ⟨.imm, 0, 0, .sc (.int .i64 s_o0_1_l5)⟩, ⟨.imm, 0, 0, .sc (.int .i64 (w64 (s_o0_2_l5 - 1)))⟩]⟩), (1, some ⟨0, 0, false, false, false, false, [⟨.sh, 0, 0, .row 1 (List.map eI choice_1)⟩]⟩), (12, some ⟨0, 0, false, false, false, false, [⟨.sh, 0, 0, .row 1 (List.map eI next_o12_r10)⟩]⟩)]) (by kernel_rfl) (sq z115 (oMv rfl rfl) <| sq z115 (oMv rfl rfl) <| sq z115 (oIAO rfl hx77 sF27 rfl rfl rfl rfl) <| sq z115 (oLdE (cs := [.im 0 _]) rfl tF2 rfl rfl rfl (fun e => nomatch e) (rd_get hx77) rfl rfl) <| sq z115 (oMv rfl rfl) <| sq z115 (oBi rfl rfl rfl rfl) <| sq z115 (oIAO rfl hx81 sF27 rfl rfl rfl rfl) <| sq z115 (oStE (v' := (w64 (x77 + x30))) tF2 rfl rfl rfl (fxI fx0) rfl rfl (rd_get hx81) rfl) <| nl) ?_
                  refine Unw.seq ?_
                  refine Go.seq ?_
                  obtain ⟨x85, hx85, h⟩ := bs h
                  obtain ⟨x88, hx88, h⟩ := bs h
                  obtain ⟨x91, hx91, h⟩ := bs h
                  refine Go.r1 c115 rfl rfl (st1 := mk [(0, .v false [.mp 0 0 0]), (1, .v false [.own 1 0 0]), (2, .v false [.im 2 (.row 1 (List.map eI used_2))]), (3, iv most_3), (10, iv x30), (11, iv k_11_l5), (12, .v false [.own 12 0 0])] [(0, some ⟨0, 0, true, true, false, true, [⟨.imm, 0, 1, .row 1 (List.map eI s_o0_0_l5)⟩, ⟨.imm, 0, 0, .sc (.int .i64 s_o0_1_l5)⟩, ⟨.imm, 0, 0, .sc (.int .i64 (w64 (s_o0_2_l5 - 1)))⟩]⟩), (1, some ⟨0, 0, false, false, false, false, [⟨.sh, 0, 0, .row 1 (List.map eI choice_1)⟩]⟩), (12, some ⟨0, 0, false, false, false, false, [⟨.sh, 0, 0, .row 1 (List.map eI (next_o12_r10.set k_11_l5.toNat (w64 (x77 + x30))))⟩]⟩)]) (by kernel_rfl) (sq z115 (oMv rfl rfl) <| sq z115 (oMv rfl rfl) <| sq z115 (oCr (xs := [.v false [.own 1 0 0]]) (vs := [(false, [.own 85 0 0])]) (v := .v false [.own 85 0 0]) (c := ⟨.sh, 0, _⟩) (cs := []) (FL_cloneN (en := eI) (L := choice_1) rfl hx85 (fun _ => rfl)) (.inl rfl) rfl kF187_27 rfl (ppC rfl pp0) rfl rfl pb0 rfl rfl rfl) <| sq z115 (oMv rfl rfl) <| sq z115 (oBS (es := List.map eI ([k_11_l5] : List Int)) rfl sF27 rfl (ptC rfl (fxI fx0) rfl pt0) (flat0 rfl fun _ => rfl)) <| sq z115 (oApO (en := eI) (M := ([k_11_l5] : List Int)) rfl hx88 rfl sF27 rfl rfl uF27 (.inl ⟨_, rfl⟩) rfl rfl rfl rfl (el_own rfl rfl) (flat0 rfl fun _ => rfl)) <| sq z115 (oMv rfl rfl) <| sq z115 (oMv rfl rfl) <| sq z115 (oCr (xs := [.v false [.mp 0 0 0], .v false [.own 88 0 0], .v false [.own 12 0 0], .v false [.im 0 _]]) (vs := [(false, [.own 91 0 0]), (false, [.im 0 _])]) (v := .tup [(false, [.own 91 0 0]), (false, [.im 0 _])]) (c := ⟨.sh, 0, _⟩) (cs := []) (ih hx91) (.inl rfl) rfl kF115_166_27_27_3 rfl (ppP rfl rfl rfl (ppM (take_own rfl rfl) (ppC rfl (ppC rfl pp0)))) rfl rfl (pbP rfl rfl pb0) rfl rfl rfl) <| sq z115 (oMvT rfl rfl) <| sq z115 (oEx rfl rfl rfl) <| sq z115 (oEx rfl rfl rfl) <| sq z115 (oAsO rfl rfl rfl rfl rfl) <| sq z115 (oAsI rfl rfl) <| nl) ?_
                  refine Unw.seq ?_
                  refine Go.seq ?_
                  refine Go.r1 c115 rfl rfl (st1 := mk [(0, .v false [.mp 0 0 0]), (1, .v false [.own 1 0 0]), (2, .v false [.im 2 (.row 1 (List.map eI used_2))]), (3, iv most_3), (10, iv x30), (11, iv k_11_l5), (13, .v false [.own 13 0 0]), (14, iv x91.2.1)] [(0, some ⟨0, 0, true, true, false, true, [⟨.imm, 0, 1, .row 1 (List.map eI x91.2.2.wears)⟩, ⟨.imm, 0, 0, .sc (.int .i64 x91.2.2.life)⟩, ⟨.imm, 0, 0, .sc (.int .i64 x91.2.2.left)⟩]⟩), (1, some ⟨0, 0, false, false, false, false, [⟨.sh, 0, 0, .row 1 (List.map eI choice_1)⟩]⟩), (13, some ⟨0, 0, false, false, false, false, [⟨.sh, 0, 0, .row 1 (List.map eI x91.1)⟩]⟩)]) (by kernel_rfl) (sq z115 (oMv rfl rfl) <| sq z115 (oBi rfl rfl rfl rfl) <| nl) ?_
                  refine Unw.seq ?_
                  by_cases hc24 : x91.2.1 ≠ 3
                  · rw [if_pos hc24] at h
                    refine Go.condT rfl (iNe.2 hc24) ?_
                    refine Go.seq ?_
                    refine Go.r0 c115 rfl rfl (sq z115 (oMv rfl rfl) <| sq z115 (oMv rfl rfl) <| sq z115 (oAsO rfl rfl rfl rfl rfl) <| sq z115 (oAsI rfl rfl) <| nl) ?_
                    refine Unw.seq ?_
                    refine Go.ret (Unw.ret ?_)
                    cases h
                    exact ⟨rfl, (fin_of rfl rF115 rfl (by kernel_rfl))⟩
                  · rw [if_neg hc24] at h
                    refine Go.condF rfl (byF iNe hc24) ?_
                    refine Go.skip ?_
                    refine Unw.blk ?_
                    exact K20 _ ⟨x91.2.2.wears, x91.2.2.life, x91.2.2.left, h, (by kernel_rfl)⟩
            · intro K25
              by_cases hc26 : k_11_l5 = (used_2.length : Int)
              · rw [if_pos hc26] at h
                refine Go.condT rfl (iEq.2 hc26) ?_
                obtain ⟨x51, hx51, h⟩ := bs h
                refine Go.r0 c115 rfl rfl (sq z115 (oMv rfl rfl) <| sq z115 (oBS (es := List.map eI ([0] : List Int)) rfl sF27 rfl (ptC rfl (fxI fx0) rfl pt0) (flat0 rfl fun _ => rfl)) <| sq z115 (oApO (en := eI) (M := ([0] : List Int)) rfl hx51 rfl sF27 rfl rfl uF27 (.inl ⟨_, rfl⟩) rfl rfl rfl rfl (el_own rfl rfl) (flat0 rfl fun _ => rfl)) <| sq z115 (oAsO rfl rfl rfl rfl rfl) <| nl) ?_
                exact K25 _ ⟨x51, h, (by kernel_rfl)⟩
              · rw [if_neg hc26] at h
                refine Go.condF rfl (byF iEq hc26) ?_
                refine Go.skip ?_
                exact K25 _ ⟨x44, h, (by kernel_rfl)⟩
        · rw [if_neg hc15] at h
          refine Go.condF rfl (byF (iAnd iDec iDec) hc15) ?_
          refine Go.exit ?_
          refine Unw.seqx ?_
          refine Unw.nil ?_
          cases h
          exact ⟨rfl, (by kernel_rfl)⟩
    · rintro ⟨e, st⟩ hp
      rcases o with ⟨s_o0_0_e0_5, s_o0_1_e0_5, s_o0_2_e0_5⟩ | r2
      · dsimp only at h
        obtain ⟨he, hst⟩ := hp
        obtain rfl : e = .exit 0 := he
        refine Unw.blkx ?_
        refine Unw.seq ?_
        refine Go.seq ?_
        refine Go.r1 c115 rfl rfl hst (sq z115 (oAsN rfl rfl eF27) <| sq z115 (oAsI rfl rfl) <| nl) ?_
        refine Unw.seq ?_
        refine Go.ret (Unw.ret ?_)
        cases h
        exact Fin_ret (fin_of rfl rF115 rfl (by kernel_rfl))
      · dsimp only at h
        obtain ⟨he, hfin⟩ := hp
        obtain rfl : e = .ret := he
        cases h
        exact Unw.ret (Fin_ret hfin)
theorem L_impl_bladeSearch_run {s_0 : S_bladeSearch} {choice_1 : (List Int)} {used_2 : (List Int)} {most_3 : Int} {r : ((List Int) × Int × S_bladeSearch)} (h : impl_bladeSearch_run s_0 choice_1 used_2 most_3 = some r) : FL Try.prog cfg 115 [.ptr true [(.imm, .row 1 (List.map eI s_0.wears)), (.imm, .sc (.int .i64 s_0.life)), (.imm, .sc (.int .i64 s_0.left))], .mv 1 (List.map eI choice_1), .im 2 false [.row 1 (List.map eI used_2)], .im 2 false [.sc (.int .i64 most_3)]] = some ([(false, [.ow 0 1 (List.map eI r.1)]), (false, [.im 0 (.sc (.int .i64 r.2.1))])], [.ptr true [(.imm, .row 1 (List.map eI r.2.2.wears)), (.imm, .sc (.int .i64 r.2.2.life)), (.imm, .sc (.int .i64 r.2.2.left))]]) := by
  unfold impl_bladeSearch_run at h
  obtain ⟨n, hn⟩ := fixO_iter h
  clear h
  induction n generalizing s_0 choice_1 used_2 most_3 r with
  | zero => cases hn
  | succ n ihn => exact L_impl_bladeSearch_run_F (self := iterO _ n) (fun h => ihn h) hn
theorem L_impl_FewestBlades {b_0 : S_Blade} {list_1 : (List S_Cutting)} {budget_2 : Int} {r : ((List Int) × Int × Int)} (h : impl_FewestBlades b_0 list_1 budget_2 = some r) : FL Try.prog cfg 37 [.im 2 true [.sc (.string b_0.Name), .sc (.int .i64 b_0.Life), .sc (.int .i64 b_0.Price), .sc (.int .i64 b_0.Speed)], .im 2 false [.row 3 (List.map e_S_Cutting list_1)], .im 2 false [.sc (.int .i64 budget_2)]] = some ([(false, [.ow 0 1 (List.map eI r.1)]), (false, [.im 0 (.sc (.int .i64 r.2.1))]), (false, [.im 0 (.sc (.int .i64 r.2.2))])], []) := by
  unfold impl_FewestBlades at h
  refine FL_goS (A := [(0, .v true [.im 2 (.sc (.string b_0.Name)), .im 2 (.sc (.int .i64 b_0.Life)), .im 2 (.sc (.int .i64 b_0.Price)), .im 2 (.sc (.int .i64 b_0.Speed))]), (1, .v false [.im 2 (.row 3 (List.map e_S_Cutting list_1))]), (2, .v false [.im 2 (.sc (.int .i64 budget_2))])]) (B := [(0, none), (1, none), (2, none)]) (nt := 52) rfl rfl Try.func37 rfl rfl rfl rfl ?_
  refine Go.seq ?_
  refine Go.r0 c37 rfl rfl (sqn z37 rfl (oBx rfl tF54 rfl (tkI (tkI (tkI (tkI tk0))))) <| sqn z37 rfl (oAsN rfl rfl eF27) <| sqn z37 rfl (oAsI rfl rfl) <| sqn z37 rfl (oAsI rfl rfl) <| nl) ?_
  refine Unw.seq ?_
  refine Go.seq ?_
  obtain ⟨x18, hx18, h⟩ := bs h
  refine Go.r0 c37 rfl rfl (sqn z37 rfl (oLd (cs := [.im 0 _, .im 0 _, .im 0 _, .im 0 _]) rfl tF54 rfl rfl) <| sqn z37 rfl (oMv rfl rfl) <| sqn z37 rfl (oCr (xs := [.v true [.im 0 _, .im 0 _, .im 0 _, .im 0 _], .v false [.im 2 _]]) (vs := [(false, [.own 18 0 0]), (false, [.im 0 _])]) (v := .tup [(false, [.own 18 0 0]), (false, [.im 0 _])]) (c := ⟨.sh, 0, _⟩) (cs := []) (L_impl_wears hx18) (.inl rfl) rfl kF114_54_56 rfl (ppC rfl (ppC rfl pp0)) rfl rfl pb0 rfl rfl rfl) <| sqn z37 rfl (oMvT rfl rfl) <| sqn z37 rfl (oEx rfl rfl rfl) <| sqn z37 rfl (oEx rfl rfl rfl) <| sqf z37 rfl (oAsO rfl rfl rfl rfl rfl) (frzO rfl rfl rfl) <| sqn z37 rfl (oAsI rfl rfl) <| nl) ?_
  refine Unw.seq ?_
  refine Go.seq ?_
  refine Go.seq ?_
  obtain ⟨t_27_m2, hm12, h⟩ := bs h
  refine Go.rX c37 rfl rfl rfl (mk [(2, iv budget_2), (3, .v false [.mp 3 0 0]), (9, .v false [.im 0 (.row 1 (List.map eI x18.1))]), (10, iv x18.2), (27, bv t_27_m2)] [(3, some ⟨0, 0, false, true, false, true, [⟨.imm, 0, 0, .sc (.string b_0.Name)⟩, ⟨.imm, 0, 0, .sc (.int .i64 b_0.Life)⟩, ⟨.imm, 0, 0, .sc (.int .i64 b_0.Price)⟩, ⟨.imm, 0, 0, .sc (.int .i64 b_0.Speed)⟩]⟩)]) ?_ ?_
  · by_cases hc1 : x18.2 = 0
    · rw [if_pos hc1] at hm12
      obtain ⟨x25, hx25, hm12⟩ := bs hm12
      cases hm12
      exact ⟨_, sqn z37 rfl (oMv rfl rfl) <| sqn z37 rfl (oBi rfl rfl rfl rfl) <| sqn z37 rfl (oMv rfl rfl) <| sgTn z37 rfl rfl rfl (iEq.2 hc1) (oMv rfl rfl) <| sgTn z37 rfl rfl rfl (iEq.2 hc1) (oCa (xs := [.v false [.im 2 _], .v false [.im 0 _], .v false [.im 0 _]]) (vs := [(false, [.im 0 _])]) (v := .v false [.im 0 _]) (L_impl_within hx25) (.inl rfl) rfl kF92_2_2_2 rfl (ppC rfl (ppC rfl (ppC rfl pp0))) rfl rfl pb0 rfl rfl rfl) <| sgTn z37 rfl rfl rfl (iEq.2 hc1) (oUn rfl rfl rfl) <| sqn z37 rfl (oPkT rfl rfl (iEq.2 hc1) rfl) <| nl, (by kernel_rfl)⟩
    · rw [if_neg hc1] at hm12
      cases hm12
      exact ⟨_, sqn z37 rfl (oMv rfl rfl) <| sqn z37 rfl (oBi rfl rfl rfl rfl) <| sqn z37 rfl (oMv rfl rfl) <| sgF rfl rfl (byF iEq hc1) rfl <| sgF rfl rfl (byF iEq hc1) rfl <| sgF rfl rfl (byF iEq hc1) rfl <| sqn z37 rfl (oPkF rfl rfl (byF iEq hc1) rfl) <| nl, (by kernel_rfl)⟩
  · refine Unw.seq ?_
    refine Go.join (fun st => ∃ code_10_r4, impl_FewestBlades_k4 b_0 budget_2 x18 code_10_r4 = some r ∧ st.norm ([2, 3, 9, 10], [3]) = mk [(2, iv budget_2), (3, .v false [.mp 3 0 0]), (9, .v false [.im 0 (.row 1 (List.map eI x18.1))]), (10, iv code_10_r4)] [(3, some ⟨0, 0, false, true, false, true, [⟨.imm, 0, 0, .sc (.string b_0.Name)⟩, ⟨.imm, 0, 0, .sc (.int .i64 b_0.Life)⟩, ⟨.imm, 0, 0, .sc (.int .i64 b_0.Price)⟩, ⟨.imm, 0, 0, .sc (.int .i64 b_0.Speed)⟩]⟩)]) ?_ ?_
    · rintro st ⟨code_10_r4, h, hst⟩
      unfold impl_FewestBlades_k4 at h
      refine Unw.seq ?_
      refine Go.seq ?_
      refine Go.seq ?_
      refine Go.r1 c37 rfl rfl hst (sqn z37 rfl (oMv rfl rfl) <| sqn z37 rfl (oBi rfl rfl rfl rfl) <| nl) ?_
      refine Unw.seq ?_
      by_cases hc3 : code_10_r4 ≠ 0
      · rw [if_pos hc3] at h
        refine Go.condT rfl (iNe.2 hc3) ?_
        refine Go.seq ?_
        refine Go.r0 c37 rfl rfl (sqn z37 rfl (oMv rfl rfl) <| sqn z37 rfl (oAsN rfl rfl eF27) <| sqn z37 rfl (oAsI rfl rfl) <| sqn z37 rfl (oAsI rfl rfl) <| nl) ?_
        refine Unw.seq ?_
        refine Go.ret (Unw.ret ?_)
        cases h
        exact Fin_ret (fin_of rfl rF37 rfl (by kernel_rfl))
      · rw [if_neg hc3] at h
        refine Go.condF rfl (byF iNe hc3) ?_
        refine Go.skip ?_
        refine Unw.seq ?_
        refine Go.seq ?_
        refine Go.r0 c37 rfl rfl (sqn z37 rfl (oMv rfl rfl) <| sqn z37 rfl (oFA (r' := .mp 3 0 1) rfl fF54_1 rfl rfl) <| sqn z37 rfl (oLd (cs := [.im 0 _]) rfl tF2 rfl rfl) <| sqn z37 rfl (oMv rfl rfl) <| sqn z37 rfl (oBu (cs := [.im 0 _, .im 0 _, .im 0 _]) rfl bF168 rfl) <| sqn z37 rfl (oBx rfl tF168 rfl (tkI (tkI (tkI tk0)))) <| sqn z37 rfl (oAsP rfl rfl) <| nl) ?_
        refine Unw.seq ?_
        refine Go.seq ?_
        refine Go.r0 c37 rfl rfl (sqn z37 rfl (oAsI rfl rfl) <| nl) ?_
        refine Unw.seq ?_
        refine Go.block ?_
        obtain ⟨o, hl, h⟩ := bs h
        refine Go.lp c37 rfl _ (fun (s : (Int × (List Int) × Int × Int)) => match s with | (m_12_l9, o_o36_0_l9, o_o36_1_l9, o_o36_2_l9) => mk [(11, .v false [.mp 36 0 0]), (12, iv m_12_l9)] [(36, some ⟨0, 0, false, true, false, true, [⟨.imm, 0, 0, .row 1 (List.map eI o_o36_0_l9)⟩, ⟨.imm, 0, 0, .sc (.int .i64 o_o36_1_l9)⟩, ⟨.imm, 0, 0, .sc (.int .i64 o_o36_2_l9)⟩]⟩)]) (fun (r2 : ((List Int) × Int × Int)) (p : Ex × St) => p.1 = .ret ∧ fin Try.prog cfg 37 Try.f37 [.im 2 true [.sc (.string b_0.Name), .sc (.int .i64 b_0.Life), .sc (.int .i64 b_0.Price), .sc (.int .i64 b_0.Speed)], .im 2 false [.row 3 (List.map e_S_Cutting list_1)], .im 2 false [.sc (.int .i64 budget_2)]] p.2 = some ([(false, [.ow 0 1 (List.map eI r2.1)]), (false, [.im 0 (.sc (.int .i64 r2.2.1))]), (false, [.im 0 (.sc (.int .i64 r2.2.2))])], [])) hl (by kernel_rfl) ?_ ?_ ?_
        · intro o p hp e
          exact nomatch (hp.1.symm.trans e)
        · rintro ⟨m_12_l9, o_o36_0_l9, o_o36_1_l9, o_o36_2_l9⟩ o h
          unfold impl_FewestBlades_l9 at h
          dsimp only at h
          refine Go.seq ?_
          refine Go.block ?_
          refine Go.seq ?_
          obtain ⟨x42, hx42, h⟩ := bs h
          refine Go.r0 c37 rfl rfl (sqn z37 rfl (oMv rfl rfl) <| sqn z37 rfl (oMv rfl rfl) <| sqn z37 rfl (oCr (xs := [.v false [.mp 36 0 0], .v false [.nil], .v false [.nil], .v false [.im 0 _]]) (vs := [(false, [.own 42 0 0]), (false, [.im 0 _])]) (v := .tup [(false, [.own 42 0 0]), (false, [.im 0 _])]) (c := ⟨.sh, 0, _⟩) (cs := []) (L_impl_bladeSearch_run hx42) (.inl rfl) rfl kF115_166_27_27_3 rfl (ppP rfl rfl rfl (ppM take_nil (ppC rfl (ppC rfl pp0)))) rfl rfl (pbP rfl rfl pb0) rfl rfl rfl) <| sqn z37 rfl (oMvT rfl rfl) <| sqn z37 rfl (oEx rfl rfl rfl) <| sqn z37 rfl (oEx rfl rfl rfl) <| sqn z37 rfl (oAsO rfl rfl rfl rfl rfl) <| sqn z37 rfl (oAsI rfl rfl) <| nl) ?_
          refine Unw.seq ?_
          refine Go.seq ?_
          refine Go.seq ?_
          refine Go.r1 c37 rfl rfl (st1 := mk [(11, .v false [.mp 36 0 0]), (12, iv m_12_l9), (13, .v false [.own 13 0 0]), (14, iv x42.2.1)] [(13, some ⟨0, 0, false, false, false, false, [⟨.sh, 0, 0, .row 1 (List.map eI x42.1)⟩]⟩), (36, some ⟨0, 0, false, true, false, true, [⟨.imm, 0, 0, .row 1 (List.map eI x42.2.2.wears)⟩, ⟨.imm, 0, 0, .sc (.int .i64 x42.2.2.life)⟩, ⟨.imm, 0, 0, .sc (.int .i64 x42.2.2.left)⟩]⟩)]) (by kernel_rfl) (sqn z37 rfl (oMv rfl rfl) <| sqn z37 rfl (oBi rfl rfl rfl rfl) <| nl) ?_
          refine Unw.seq ?_
          by_cases hc8 : x42.2.1 = 0
          · rw [if_pos hc8] at h
            refine Go.condT rfl (iEq.2 hc8) ?_
            refine Go.seq ?_
            refine Go.r0 c37 rfl rfl (sqn z37 rfl (oMv rfl rfl) <| sqn z37 rfl (oMv rfl rfl) <| sqn z37 rfl (oAsO rfl rfl rfl rfl rfl) <| sqn z37 rfl (oAsI rfl rfl) <| sqn z37 rfl (oAsI rfl rfl) <| nl) ?_
            refine Unw.seq ?_
            refine Go.ret (Unw.ret ?_)
            cases h
            exact ⟨rfl, (fin_of rfl rF37 rfl (by kernel_rfl))⟩
          · rw [if_neg hc8] at h
            refine Go.condF rfl (byF iEq hc8) ?_
            refine Go.skip ?_
            refine Unw.seq ?_
            refine Go.seq ?_
            refine Go.r0 c37 rfl rfl (sqn z37 rfl (oMv rfl rfl) <| sqn z37 rfl (oBi rfl rfl rfl rfl) <| nl) ?_
            refine Unw.seq ?_
            by_cases hc9 : x42.2.1 ≠ 3
            · rw [if_pos hc9] at h
              refine Go.condT rfl (iNe.2 hc9) ?_
              refine Go.seq ?_
              refine Go.r0 c37 rfl rfl (sqn z37 rfl (oMv rfl rfl) <| sqn z37 rfl (oAsN rfl rfl eF27) <| sqn z37 rfl (oAsI rfl rfl) <| sqn z37 rfl (oAsI rfl rfl) <| nl) ?_
              refine Unw.seq ?_
              refine Go.ret (Unw.ret ?_)
              cases h
              exact ⟨rfl, (fin_of rfl rF37 rfl (by kernel_rfl))⟩
            · rw [if_neg hc9] at h
              refine Go.condF rfl (byF iNe hc9) ?_
              refine Go.skip ?_
              refine Unw.blk ?_
              refine Unw.seq ?_
              refine Go.r0 c37 rfl rfl (sqn z37 rfl (oMv rfl rfl) <| sqn z37 rfl (oBi rfl rfl rfl rfl) <| sqn z37 rfl (oAsI rfl rfl) <| nl) ?_
              refine Unw.nil ?_
              cases h
              exact ⟨rfl, (by kernel_rfl)⟩
        · rintro ⟨e, st⟩ hp
          obtain ⟨r2, rfl⟩ : ∃ y, y = o := ⟨o, rfl⟩
          obtain ⟨he, hfin⟩ := hp
          obtain rfl : e = .ret := he
          cases h
          exact Unw.ret (Fin_ret hfin)
    · intro K10
      by_cases hc11 : t_27_m2 = true
      · rw [if_pos hc11] at h
        refine Go.condT rfl (Iff.rfl.2 hc11) ?_
        refine Go.r0 c37 rfl rfl (sqn z37 rfl (oAsI rfl rfl) <| nl) ?_
        exact K10 _ ⟨2, h, (by kernel_rfl)⟩
      · rw [if_neg hc11] at h
        refine Go.condF rfl (byF Iff.rfl hc11) ?_
        refine Go.skip ?_
        exact K10 _ ⟨x18.2, h, (by kernel_rfl)⟩
theorem L_impl_DecreasingBlades_c1 {i_0 : Int} {k_1 : Int} {cap0_0 : (List Int)} {r : Int} (h : impl_DecreasingBlades_c1 i_0 k_1 cap0_0 = some r) : FL Try.prog cfg 170 [.im 2 false [.sc (.int .i64 i_0)], .im 2 false [.sc (.int .i64 k_1)], .im 2 false [.cp [.row 1 (List.map eI cap0_0)] 0]] = some ([(false, [.im 0 (.sc (.int .i64 r))])], []) := by
  unfold impl_DecreasingBlades_c1 at h
  refine FL_goS (A := [(0, .v false [.im 2 (.sc (.int .i64 i_0))]), (1, .v false [.im 2 (.sc (.int .i64 k_1))]), (2, .v false [.im 2 (.cp [.row 1 (List.map eI cap0_0)] 0)])]) (B := [(0, none), (1, none), (2, none)]) (nt := 15) rfl rfl Try.func170 rfl rfl rfl rfl ?_
  refine Go.seq ?_
  refine Go.r0 c170 rfl rfl (sq z170 (oAsI rfl rfl) <| nl) ?_
  refine Unw.seq ?_
  refine Go.seq ?_
  obtain ⟨x8, hx8, h⟩ := bs h
  obtain ⟨x12, hx12, h⟩ := bs h
  refine Go.dr c170 rfl rfl rfl rfl (mk [(5, iv (w64 (x8 - x12)))] []) (sT rfl (dN z170 rfl (oLd (cs := [.im 2 _]) rfl tF27 rfl rfl)) <| sT rfl (dN z170 rfl (oMv rfl rfl)) <| sT rfl (dN z170 rfl (oIAI rfl hx8 sF27 rfl rfl)) <| sT rfl (dN z170 rfl (oLd (cs := [.im 2 _]) rfl tF2 rfl rfl)) <| sT rfl (dN z170 rfl (oLd (cs := [.im 2 _]) rfl tF27 rfl rfl)) <| sT rfl (dN z170 rfl (oMv rfl rfl)) <| sT rfl (dN z170 rfl (oIAI rfl hx12 sF27 rfl rfl)) <| sT rfl (dN z170 rfl (oLd (cs := [.im 2 _]) rfl tF2 rfl rfl)) <| sT rfl (dN z170 rfl (oBi rfl rfl rfl rfl)) <| sS (dN z170 rfl (oAsI rfl rfl)) trivial (sD (by kernel_rfl))) ?_
  refine Unw.seq ?_
  refine Go.ret (Unw.ret ?_)
  cases h
  exact Fin_ret (fin_of rfl rF170 rfl (by kernel_rfl))
theorem L_slices_insertionSortCmpFunc_int_170 {data_0 : (List Int)} {a_1 : Int} {b_2 : Int} {fc3_0_0 : (List Int)} {r : (List Int)} (h : slices_insertionSortCmpFunc_int data_0 a_1 b_2 (fun b0 b1 => impl_DecreasingBlades_c1 b0 b1 fc3_0_0) = some r) : FL Try.prog cfg 272 [.ow 1 (List.map eI data_0), .im 2 false [.sc (.int .i64 a_1)], .im 2 false [.sc (.int .i64 b_2)], .im 2 false [.clo 170 [.cp [.row 1 (List.map eI fc3_0_0)] 0]]] = some ([], [.ow 1 (List.map eI r)]) := by
  unfold slices_insertionSortCmpFunc_int at h
  refine FL_goS (A := [(0, .v false [.own 0 0 0]), (1, .v false [.im 2 (.sc (.int .i64 a_1))]), (2, .v false [.im 2 (.sc (.int .i64 b_2))]), (3, .v false [.im 2 (.clo 170 [.cp [.row 1 (List.map eI fc3_0_0)] 0])])]) (B := [(0, some ⟨0, 0, true, false, false, false, [⟨.sh, 0, 0, .row 1 (List.map eI data_0)⟩]⟩), (1, none), (2, none), (3, none)]) (nt := 53) rfl rfl Try.func272 rfl rfl rfl rfl ?_
  refine Go.seq ?_
  refine Go.r0 c272 rfl rfl (sq z272 (oMv rfl rfl) <| sq z272 (oBi rfl rfl rfl rfl) <| sq z272 (oAsI rfl rfl) <| nl) ?_
  refine Unw.seq ?_
  refine Go.block ?_
  obtain ⟨o, hl, h⟩ := bs h
  refine Go.lp c272 rfl _ (fun (s : (Int × (List Int))) => match s with | (i_8_l1, data_o0_l1) => mk [(0, .v false [.own 0 0 0]), (1, iv a_1), (2, iv b_2), (3, .v false [.im 2 (.clo 170 [.cp [.row 1 (List.map eI fc3_0_0)] 0])]), (8, iv i_8_l1)] [(0, some ⟨0, 0, true, false, false, false, [⟨.sh, 0, 0, .row 1 (List.map eI data_o0_l1)⟩]⟩)]) (fun (r2 : (List Int)) (p : Ex × St) => p.1 = .exit 0 ∧ fin Try.prog cfg 272 Try.f272 [.ow 1 (List.map eI data_0), .im 2 false [.sc (.int .i64 a_1)], .im 2 false [.sc (.int .i64 b_2)], .im 2 false [.clo 170 [.cp [.row 1 (List.map eI fc3_0_0)] 0]]] p.2 = some ([], [.ow 1 (List.map eI r2)])) hl (by kernel_rfl) ?_ ?_ ?_
  · intro o p hp e
    exact nomatch (hp.1.symm.trans e)
  · rintro ⟨i_8_l1, data_o0_l1⟩ o h
    unfold slices_insertionSortCmpFunc_int_l1 at h
    dsimp only at h
    refine Go.seq ?_
    refine Go.seq ?_
    refine Go.r0 c272 rfl rfl (sq z272 (oMv rfl rfl) <| sq z272 (oMv rfl rfl) <| sq z272 (oBi rfl rfl rfl rfl) <| nl) ?_
    refine Unw.seq ?_
    by_cases hc15 : i_8_l1 < b_2
    · rw [if_pos hc15] at h
      refine Go.condT rfl (iDec.2 hc15) ?_
      refine Go.skip ?_
      refine Unw.seq ?_
      refine Go.seq ?_
      refine Go.block ?_
      refine Go.seq ?_
      refine Go.r0 c272 rfl rfl (sq z272 (oMv rfl rfl) <| sq z272 (oAsI rfl rfl) <| nl) ?_
      refine Unw.seq ?_
      refine Go.block ?_
      obtain ⟨o, hl, h⟩ := bs h
      refine Go.lp c272 rfl _ (fun (s : (Int × (List Int))) => match s with | (j_9_l4, data_o0_l4) => mk [(0, .v false [.own 0 0 0]), (1, iv a_1), (2, iv b_2), (3, .v false [.im 2 (.clo 170 [.cp [.row 1 (List.map eI fc3_0_0)] 0])]), (8, iv i_8_l1), (9, iv j_9_l4)] [(0, some ⟨0, 0, true, false, false, false, [⟨.sh, 0, 0, .row 1 (List.map eI data_o0_l4)⟩]⟩)]) (fun (data_o0_e2_4 : (List Int)) (p : Ex × St) => p.1 = .exit 2 ∧ p.2.norm ([0, 1, 2, 3, 8], [0]) = mk [(0, .v false [.own 0 0 0]), (1, iv a_1), (2, iv b_2), (3, .v false [.im 2 (.clo 170 [.cp [.row 1 (List.map eI fc3_0_0)] 0])]), (8, iv i_8_l1)] [(0, some ⟨0, 0, true, false, false, false, [⟨.sh, 0, 0, .row 1 (List.map eI data_o0_e2_4)⟩]⟩)]) hl (by kernel_rfl) ?_ ?_ ?_
      · intro o p hp e
        exact nomatch (hp.1.symm.trans e)
      · rintro ⟨j_9_l4, data_o0_l4⟩ o h
        unfold slices_insertionSortCmpFunc_int_l4 at h
        dsimp only at h
        refine Go.seq ?_
        refine Go.seq ?_
        obtain ⟨t_34_m4, hm24, h⟩ := bs h
        refine Go.dr c272 rfl rfl rfl rfl (mk [(0, .v false [.own 0 0 0]), (1, iv a_1), (2, iv b_2), (3, .v false [.im 2 (.clo 170 [.cp [.row 1 (List.map eI fc3_0_0)] 0])]), (8, iv i_8_l1), (9, iv j_9_l4), (34, bv t_34_m4)] [(0, some ⟨0, 0, true, false, false, false, [⟨.sh, 0, 0, .row 1 (List.map eI data_o0_l4)⟩]⟩)]) ?_ ?_
        · by_cases hc22 : j_9_l4 > a_1
          · rw [if_pos hc22] at hm24
            obtain ⟨x25, hx25, hm24⟩ := bs hm24
            obtain ⟨x30, hx30, hm24⟩ := bs hm24
            obtain ⟨x32, hx32, hm24⟩ := bs hm24
            cases hm24
            exact sT rfl (dN z272 rfl (oMv rfl rfl)) <| sT rfl (dN z272 rfl (oMv rfl rfl)) <| sT rfl (dN z272 rfl (oBi rfl rfl rfl rfl)) <| sT rfl (dN z272 rfl (oMv rfl rfl)) <| sT rfl (dT z272 rfl rfl rfl (iDec.2 hc22) (oMv rfl rfl)) <| sT rfl (dT z272 rfl rfl rfl (iDec.2 hc22) (oMv rfl rfl)) <| sT rfl (dT z272 rfl rfl rfl (iDec.2 hc22) (oMv rfl rfl)) <| sT rfl (dT z272 rfl rfl rfl (iDec.2 hc22) (oIAO rfl hx25 sF267 rfl rfl rfl rfl)) <| sT rfl (dT z272 rfl rfl rfl (iDec.2 hc22) (oLdE (cs := [.im 0 _]) rfl tF3 rfl rfl rfl (fun e => nomatch e) (rd_get hx25) rfl rfl)) <| sT rfl (dT z272 rfl rfl rfl (iDec.2 hc22) (oMv rfl rfl)) <| sT rfl (dT z272 rfl rfl rfl (iDec.2 hc22) (oMv rfl rfl)) <| sT rfl (dT z272 rfl rfl rfl (iDec.2 hc22) (oBi rfl rfl rfl rfl)) <| sT rfl (dT z272 rfl rfl rfl (iDec.2 hc22) (oIAO rfl hx30 sF267 rfl rfl rfl rfl)) <| sT rfl (dT z272 rfl rfl rfl (iDec.2 hc22) (oLdE (cs := [.im 0 _]) rfl tF3 rfl rfl rfl (fun e => nomatch e) (rd_get hx30) rfl rfl)) <| sS (dT z272 rfl rfl rfl (iDec.2 hc22) (oCa (xs := [.v false [.im 0 _], .v false [.im 0 _], .v false [.im 2 _]]) (vs := [(false, [.im 0 _])]) (v := .v false [.im 0 _]) (L_impl_DecreasingBlades_c1 hx32) (.inr ⟨_, _, rfl, rfl⟩) rfl kF170_3_3_0 rfl (ppC rfl (ppC rfl (ppC rfl pp0))) rfl rfl pb0 rfl rfl rfl)) trivial (sT rfl (dT z272 rfl rfl rfl (iDec.2 hc22) (oBi rfl rfl rfl rfl)) <| sT rfl (dN z272 rfl (oPkT rfl rfl (iDec.2 hc22) rfl)) <| sD (by kernel_rfl))
          · rw [if_neg hc22] at hm24
            cases hm24
            exact sT rfl (dN z272 rfl (oMv rfl rfl)) <| sT rfl (dN z272 rfl (oMv rfl rfl)) <| sT rfl (dN z272 rfl (oBi rfl rfl rfl rfl)) <| sT rfl (dN z272 rfl (oMv rfl rfl)) <| sT rfl (dF rfl rfl rfl (byF iDec hc22) rfl) <| sT rfl (dF rfl rfl rfl (byF iDec hc22) rfl) <| sT rfl (dF rfl rfl rfl (byF iDec hc22) rfl) <| sT rfl (dF rfl rfl rfl (byF iDec hc22) rfl) <| sT rfl (dF rfl rfl rfl (byF iDec hc22) rfl) <| sT rfl (dF rfl rfl rfl (byF iDec hc22) rfl) <| sT rfl (dF rfl rfl rfl (byF iDec hc22) rfl) <| sT rfl (dF rfl rfl rfl (byF iDec hc22) rfl) <| sT rfl (dF rfl rfl rfl (byF iDec hc22) rfl) <| sT rfl (dF rfl rfl rfl (byF iDec hc22) rfl) <| sS (dF rfl rfl rfl (byF iDec hc22) rfl) trivial (sT rfl (dF rfl rfl rfl (byF iDec hc22) rfl) <| sT rfl (dN z272 rfl (oPkF rfl rfl (byF iDec hc22) rfl)) <| sD (by kernel_rfl))
        · refine Unw.seq ?_
          by_cases hc23 : t_34_m4 = true
          · rw [if_pos hc23] at h
            refine Go.condT rfl (Iff.rfl.2 hc23) ?_
            refine Go.skip ?_
            refine Unw.seq ?_
            refine Go.seq ?_
            refine Go.block ?_
            obtain ⟨x45, hx45, h⟩ := bs h
            obtain ⟨x49, hx49, h⟩ := bs h
            obtain ⟨x51, hx51, h⟩ := bs h
            obtain ⟨x52, hx52, h⟩ := bs h
            refine Go.dr c272 rfl rfl rfl rfl (mk [(0, .v false [.own 0 0 0]), (1, iv a_1), (2, iv b_2), (3, .v false [.im 2 (.clo 170 [.cp [.row 1 (List.map eI fc3_0_0)] 0])]), (8, iv i_8_l1), (9, iv j_9_l4)] [(0, some ⟨0, 0, true, false, false, false, [⟨.sh, 0, 0, .row 1 (List.map eI ((data_o0_l4.set j_9_l4.toNat x45).set ((w64 (j_9_l4 - 1)).toNat) x49))⟩]⟩)]) (sT rfl (dN z272 rfl (oMv rfl rfl)) <| sT rfl (dN z272 rfl (oMv rfl rfl)) <| sT rfl (dN z272 rfl (oMv rfl rfl)) <| sT rfl (dN z272 rfl (oMv rfl rfl)) <| sT rfl (dN z272 rfl (oBi rfl rfl rfl rfl)) <| sT rfl (dN z272 rfl (oMv rfl rfl)) <| sT rfl (dN z272 rfl (oMv rfl rfl)) <| sT rfl (dN z272 rfl (oBi rfl rfl rfl rfl)) <| sT rfl (dN z272 rfl (oIAO rfl hx45 sF267 rfl rfl rfl rfl)) <| sT rfl (dN z272 rfl (oLdE (cs := [.im 0 _]) rfl tF3 rfl rfl rfl (fun e => nomatch e) (rd_get hx45) rfl rfl)) <| sT rfl (dN z272 rfl (oMv rfl rfl)) <| sT rfl (dN z272 rfl (oMv rfl rfl)) <| sT rfl (dN z272 rfl (oIAO rfl hx49 sF267 rfl rfl rfl rfl)) <| sT rfl (dN z272 rfl (oLdE (cs := [.im 0 _]) rfl tF3 rfl rfl rfl (fun e => nomatch e) (rd_get hx49) rfl rfl)) <| sT rfl (dN z272 rfl (oIAO rfl hx51 sF267 rfl rfl rfl rfl)) <| sS (dN z272 rfl (oStE (v' := x45) tF3 rfl rfl rfl (fxI fx0) rfl rfl (rd_get hx51) rfl)) trivial (sT rfl (dN z272 rfl (oIAO rfl hx52 sF267 rfl rfl rfl rfl)) <| sS (dN z272 rfl (oStE (v' := x49) tF3 rfl rfl rfl (fxI fx0) rfl rfl (rd_get hx52) rfl)) trivial (sD (by kernel_rfl)))) ?_
            refine Unw.blk ?_
            refine Unw.seq ?_
            refine Go.r0 c272 rfl rfl (sq z272 (oMv rfl rfl) <| sq z272 (oBi rfl rfl rfl rfl) <| sq z272 (oAsI rfl rfl) <| nl) ?_
            refine Unw.nil ?_
            cases h
            exact ⟨rfl, (by kernel_rfl)⟩
          · rw [if_neg hc23] at h
            refine Go.condF rfl (byF Iff.rfl hc23) ?_
            refine Go.exit ?_
            refine Unw.seqx ?_
            refine Unw.nil ?_
            cases h
            exact ⟨rfl, (by kernel_rfl)⟩
      · rintro ⟨e, st⟩ hp
        obtain ⟨data_o0_e2_4, rfl⟩ : ∃ y, y = o := ⟨o, rfl⟩
        obtain ⟨he, hst⟩ := hp
        obtain rfl : e = .exit 2 := he
        refine Unw.blkx ?_
        refine Unw.blk ?_
        refine Unw.seq ?_
        refine Go.r1 c272 rfl rfl hst (sq z272 (oMv rfl rfl) <| sq z272 (oBi rfl rfl rfl rfl) <| sq z272 (oAsI rfl rfl) <| nl) ?_
        refine Unw.nil ?_
        cases h
        exact ⟨rfl, (by kernel_rfl)⟩
    · rw [if_neg hc15] at h
      refine Go.condF rfl (byF iDec hc15) ?_
      refine Go.exit ?_
      refine Unw.seqx ?_
      refine Unw.nil ?_
      cases h
      exact ⟨rfl, (fin_of rfl rF272 rfl (by kernel_rfl))⟩
  · rintro ⟨e, st⟩ hp
    obtain ⟨r2, rfl⟩ : ∃ y, y = o := ⟨o, rfl⟩
    obtain ⟨he, hfin⟩ := hp
    obtain rfl : e = .exit 0 := he
    cases h
    refine Unw.blkx ?_
    exact Unw.nil (Fin_end hfin)
theorem L_slices_swapRangeCmpFunc_int_170 {data_0 : (List Int)} {a_1 : Int} {b_2 : Int} {n_3 : Int} {fc4_0_0 : (List Int)} {r : (List Int)} (h : slices_swapRangeCmpFunc_int data_0 a_1 b_2 n_3 (fun b0 b1 => impl_DecreasingBlades_c1 b0 b1 fc4_0_0) = some r) : FL Try.prog cfg 286 [.ow 1 (List.map eI data_0), .im 2 false [.sc (.int .i64 a_1)], .im 2 false [.sc (.int .i64 b_2)], .im 2 false [.sc (.int .i64 n_3)], .im 2 false [.clo 170 [.cp [.row 1 (List.map eI fc4_0_0)] 0]]] = some ([], [.ow 1 (List.map eI r)]) := by
  unfold slices_swapRangeCmpFunc_int at h
  refine FL_goS (A := [(0, .v false [.own 0 0 0]), (1, .v false [.im 2 (.sc (.int .i64 a_1))]), (2, .v false [.im 2 (.sc (.int .i64 b_2))]), (3, .v false [.im 2 (.sc (.int .i64 n_3))]), (4, .v false [.im 2 (.clo 170 [.cp [.row 1 (List.map eI fc4_0_0)] 0])])]) (B := [(0, some ⟨0, 0, true, false, false, false, [⟨.sh, 0, 0, .row 1 (List.map eI data_0)⟩]⟩), (1, none), (2, none), (3, none), (4, none)]) (nt := 38) rfl rfl Try.func286 rfl rfl rfl rfl ?_
  refine Go.seq ?_
  refine Go.r0 c286 rfl rfl (sq z286 (oAsI rfl rfl) <| nl) ?_
  refine Unw.seq ?_
  refine Go.block ?_
  obtain ⟨o, hl, h⟩ := bs h
  refine Go.lp c286 rfl _ (fun (s : (Int × (List Int))) => match s with | (i_10_l1, data_o0_l1) => mk [(0, .v false [.own 0 0 0]), (1, iv a_1), (2, iv b_2), (3, iv n_3), (10, iv i_10_l1)] [(0, some ⟨0, 0, true, false, false, false, [⟨.sh, 0, 0, .row 1 (List.map eI data_o0_l1)⟩]⟩)]) (fun (r2 : (List Int)) (p : Ex × St) => p.1 = .exit 0 ∧ fin Try.prog cfg 286 Try.f286 [.ow 1 (List.map eI data_0), .im 2 false [.sc (.int .i64 a_1)], .im 2 false [.sc (.int .i64 b_2)], .im 2 false [.sc (.int .i64 n_3)], .im 2 false [.clo 170 [.cp [.row 1 (List.map eI fc4_0_0)] 0]]] p.2 = some ([], [.ow 1 (List.map eI r2)])) hl (by kernel_rfl) ?_ ?_ ?_
  · intro o p hp e
    exact nomatch (hp.1.symm.trans e)
  · rintro ⟨i_10_l1, data_o0_l1⟩ o h
    unfold slices_swapRangeCmpFunc_int_l1 at h
    dsimp only at h
    refine Go.seq ?_
    refine Go.seq ?_
    refine Go.r0 c286 rfl rfl (sq z286 (oMv rfl rfl) <| sq z286 (oMv rfl rfl) <| sq z286 (oBi rfl rfl rfl rfl) <| nl) ?_
    refine Unw.seq ?_
    by_cases hc3 : i_10_l1 < n_3
    · rw [if_pos hc3] at h
      refine Go.condT rfl (iDec.2 hc3) ?_
      refine Go.skip ?_
      refine Unw.seq ?_
      refine Go.seq ?_
      refine Go.block ?_
      obtain ⟨x28, hx28, h⟩ := bs h
      obtain ⟨x34, hx34, h⟩ := bs h
      obtain ⟨x36, hx36, h⟩ := bs h
      obtain ⟨x37, hx37, h⟩ := bs h
      refine Go.dr c286 rfl rfl rfl rfl (mk [(0, .v false [.own 0 0 0]), (1, iv a_1), (2, iv b_2), (3, iv n_3), (10, iv i_10_l1)] [(0, some ⟨0, 0, true, false, false, false, [⟨.sh, 0, 0, .row 1 (List.map eI ((data_o0_l1.set ((w64 (a_1 + i_10_l1)).toNat) x28).set ((w64 (b_2 + i_10_l1)).toNat) x34))⟩]⟩)]) (sT rfl (dN z286 rfl (oMv rfl rfl)) <| sT rfl (dN z286 rfl (oMv rfl rfl)) <| sT rfl (dN z286 rfl (oMv rfl rfl)) <| sT rfl (dN z286 rfl (oBi rfl rfl rfl rfl)) <| sT rfl (dN z286 rfl (oMv rfl rfl)) <| sT rfl (dN z286 rfl (oMv rfl rfl)) <| sT rfl (dN z286 rfl (oMv rfl rfl)) <| sT rfl (dN z286 rfl (oBi rfl rfl rfl rfl)) <| sT rfl (dN z286 rfl (oMv rfl rfl)) <| sT rfl (dN z286 rfl (oMv rfl rfl)) <| sT rfl (dN z286 rfl (oMv rfl rfl)) <| sT rfl (dN z286 rfl (oBi rfl rfl rfl rfl)) <| sT rfl (dN z286 rfl (oIAO rfl hx28 sF267 rfl rfl rfl rfl)) <| sT rfl (dN z286 rfl (oLdE (cs := [.im 0 _]) rfl tF3 rfl rfl rfl (fun e => nomatch e) (rd_get hx28) rfl rfl)) <| sT rfl (dN z286 rfl (oMv rfl rfl)) <| sT rfl (dN z286 rfl (oMv rfl rfl)) <| sT rfl (dN z286 rfl (oMv rfl rfl)) <| sT rfl (dN z286 rfl (oBi rfl rfl rfl rfl)) <| sT rfl (dN z286 rfl (oIAO rfl hx34 sF267 rfl rfl rfl rfl)) <| sT rfl (dN z286 rfl (oLdE (cs := [.im 0 _]) rfl tF3 rfl rfl rfl (fun e => nomatch e) (rd_get hx34) rfl rfl)) <| sT rfl (dN z286 rfl (oIAO rfl hx36 sF267 rfl rfl rfl rfl)) <| sS (dN z286 rfl (oStE (v' := x28) tF3 rfl rfl rfl (fxI fx0) rfl rfl (rd_get hx36) rfl)) trivial (sT rfl (dN z286 rfl (oIAO rfl hx37 sF267 rfl rfl rfl rfl)) <| sS (dN z286 rfl (oStE (v' := x34) tF3 rfl rfl rfl (fxI fx0) rfl rfl (rd_get hx37) rfl)) trivial (sD (by kernel_rfl)))) ?_
      refine Unw.blk ?_
      refine Unw.seq ?_
      refine Go.r0 c286 rfl rfl (sq z286 (oMv rfl rfl) <| sq z286 (oBi rfl rfl rfl rfl) <| sq z286 (oAsI rfl rfl) <| nl) ?_
      refine Unw.nil ?_
      cases h
      exact ⟨rfl, (by kernel_rfl)⟩
    · rw [if_neg hc3] at h
      refine Go.condF rfl (byF iDec hc3) ?_
      refine Go.exit ?_
      refine Unw.seqx ?_
      refine Unw.nil ?_
      cases h
      exact ⟨rfl, (fin_of rfl rF286 rfl (by kernel_rfl))⟩
  · rintro ⟨e, st⟩ hp
    obtain ⟨r2, rfl⟩ : ∃ y, y = o := ⟨o, rfl⟩
    obtain ⟨he, hfin⟩ := hp
    obtain rfl : e = .exit 0 := he
    cases h
    refine Unw.blkx ?_
    exact Unw.nil (Fin_end hfin)
theorem L_slices_rotateCmpFunc_int_170 {data_0 : (List Int)} {a_1 : Int} {m_2 : Int} {b_3 : Int} {fc4_0_0 : (List Int)} {r : (List Int)} (h : slices_rotateCmpFunc_int data_0 a_1 m_2 b_3 (fun b0 b1 => impl_DecreasingBlades_c1 b0 b1 fc4_0_0) = some r) : FL Try.prog cfg 284 [.ow 1 (List.map eI data_0), .im 2 false [.sc (.int .i64 a_1)], .im 2 false [.sc (.int .i64 m_2)], .im 2 false [.sc (.int .i64 b_3)], .im 2 false [.clo 170 [.cp [.row 1 (List.map eI fc4_0_0)] 0]]] = some ([], [.ow 1 (List.map eI r)]) := by
  unfold slices_rotateCmpFunc_int at h
  refine FL_goS (A := [(0, .v false [.own 0 0 0]), (1, .v false [.im 2 (.sc (.int .i64 a_1))]), (2, .v false [.im 2 (.sc (.int .i64 m_2))]), (3, .v false [.im 2 (.sc (.int .i64 b_3))]), (4, .v false [.im 2 (.clo 170 [.cp [.row 1 (List.map eI fc4_0_0)] 0])])]) (B := [(0, some ⟨0, 0, true, false, false, false, [⟨.sh, 0, 0, .row 1 (List.map eI data_0)⟩]⟩), (1, none), (2, none), (3, none), (4, none)]) (nt := 58) rfl rfl Try.func284 rfl rfl rfl rfl ?_
  refine Go.seq ?_
  refine Go.r0 c284 rfl rfl (sq z284 (oMv rfl rfl) <| sq z284 (oMv rfl rfl) <| sq z284 (oBi rfl rfl rfl rfl) <| sq z284 (oAsI rfl rfl) <| nl) ?_
  refine Unw.seq ?_
  refine Go.seq ?_
  refine Go.r0 c284 rfl rfl (sq z284 (oMv rfl rfl) <| sq z284 (oMv rfl rfl) <| sq z284 (oBi rfl rfl rfl rfl) <| sq z284 (oAsI rfl rfl) <| nl) ?_
  refine Unw.seq ?_
  refine Go.seq ?_
  refine Go.block ?_
  obtain ⟨o, hl, h⟩ := bs h
  refine Go.lp c284 rfl _ (fun (s : (Int × Int × (List Int))) => match s with | (i_10_l2, j_11_l2, data_o0_l2) => mk [(0, .v false [.own 0 0 0]), (2, iv m_2), (4, .v false [.im 2 (.clo 170 [.cp [.row 1 (List.map eI fc4_0_0)] 0])]), (10, iv i_10_l2), (11, iv j_11_l2)] [(0, some ⟨0, 0, true, false, false, false, [⟨.sh, 0, 0, .row 1 (List.map eI data_o0_l2)⟩]⟩)]) (fun (o : (Int × (List Int))) (p : Ex × St) => match o with | (i_10_e0_2, data_o0_e0_2) => p.1 = .exit 0 ∧ p.2.norm ([0, 2, 4, 10], [0]) = mk [(0, .v false [.own 0 0 0]), (2, iv m_2), (4, .v false [.im 2 (.clo 170 [.cp [.row 1 (List.map eI fc4_0_0)] 0])]), (10, iv i_10_e0_2)] [(0, some ⟨0, 0, true, false, false, false, [⟨.sh, 0, 0, .row 1 (List.map eI data_o0_e0_2)⟩]⟩)]) hl (by kernel_rfl) ?_ ?_ ?_
  · intro o p hp e
    obtain ⟨i_10_e0_2, data_o0_e0_2⟩ := o
    exact nomatch (hp.1.symm.trans e)
  · rintro ⟨i_10_l2, j_11_l2, data_o0_l2⟩ o h
    unfold slices_rotateCmpFunc_int_l2 at h
    dsimp only at h
    refine Go.seq ?_
    refine Go.seq ?_
    refine Go.r0 c284 rfl rfl (sq z284 (oMv rfl rfl) <| sq z284 (oMv rfl rfl) <| sq z284 (oBi rfl rfl rfl rfl) <| nl) ?_
    refine Unw.seq ?_
    by_cases hc5 : i_10_l2 ≠ j_11_l2
    · rw [if_pos hc5] at h
      refine Go.condT rfl (iNe.2 hc5) ?_
      refine Go.skip ?_
      refine Unw.seq ?_
      refine Go.block ?_
      refine Go.seq ?_
      refine Go.r0 c284 rfl rfl (sq z284 (oMv rfl rfl) <| sq z284 (oMv rfl rfl) <| sq z284 (oBi rfl rfl rfl rfl) <| nl) ?_
      refine Unw.seq ?_
      by_cases hc6 : i_10_l2 > j_11_l2
      · rw [if_pos hc6] at h
        refine Go.condT rfl (iDec.2 hc6) ?_
        refine Go.seq ?_
        obtain ⟨x31, hx31, h⟩ := bs h
        refine Go.r0 c284 rfl rfl (sq z284 (oMv rfl rfl) <| sq z284 (oMv rfl rfl) <| sq z284 (oMv rfl rfl) <| sq z284 (oBi rfl rfl rfl rfl) <| sq z284 (oMv rfl rfl) <| sq z284 (oMv rfl rfl) <| sq z284 (oMv rfl rfl) <| sq z284 (oCa (xs := [.v false [.own 0 0 0], .v false [.im 0 _], .v false [.im 0 _], .v false [.im 0 _], .v false [.im 2 _]]) (vs := []) (v := .tup []) (L_slices_swapRangeCmpFunc_int_170 hx31) (.inl rfl) rfl kF286_267_3_3_3_269 rfl (ppC rfl (ppC rfl (ppC rfl (ppC rfl (ppC rfl pp0))))) rfl rfl (pbO rfl rfl rfl rfl pb0) rfl rfl rfl) <| nl) ?_
        refine Unw.seq ?_
        refine Go.r1 c284 rfl rfl (st1 := mk [(0, .v false [.own 0 0 0]), (2, iv m_2), (4, .v false [.im 2 (.clo 170 [.cp [.row 1 (List.map eI fc4_0_0)] 0])]), (10, iv i_10_l2), (11, iv j_11_l2)] [(0, some ⟨0, 0, true, false, false, false, [⟨.sh, 0, 0, .row 1 (List.map eI x31)⟩]⟩)]) (by kernel_rfl) (sq z284 (oMv rfl rfl) <| sq z284 (oMv rfl rfl) <| sq z284 (oBi rfl rfl rfl rfl) <| sq z284 (oAsI rfl rfl) <| nl) ?_
        refine Unw.blk ?_
        refine Unw.nil ?_
        cases h
        exact ⟨rfl, (by kernel_rfl)⟩
      · rw [if_neg hc6] at h
        refine Go.condF rfl (byF iDec hc6) ?_
        refine Go.seq ?_
        obtain ⟨x46, hx46, h⟩ := bs h
        refine Go.r0 c284 rfl rfl (sq z284 (oMv rfl rfl) <| sq z284 (oMv rfl rfl) <| sq z284 (oMv rfl rfl) <| sq z284 (oBi rfl rfl rfl rfl) <| sq z284 (oMv rfl rfl) <| sq z284 (oMv rfl rfl) <| sq z284 (oBi rfl rfl rfl rfl) <| sq z284 (oMv rfl rfl) <| sq z284 (oBi rfl rfl rfl rfl) <| sq z284 (oMv rfl rfl) <| sq z284 (oMv rfl rfl) <| sq z284 (oCa (xs := [.v false [.own 0 0 0], .v false [.im 0 _], .v false [.im 0 _], .v false [.im 0 _], .v false [.im 2 _]]) (vs := []) (v := .tup []) (L_slices_swapRangeCmpFunc_int_170 hx46) (.inl rfl) rfl kF286_267_3_3_3_269 rfl (ppC rfl (ppC rfl (ppC rfl (ppC rfl (ppC rfl pp0))))) rfl rfl (pbO rfl rfl rfl rfl pb0) rfl rfl rfl) <| nl) ?_
        refine Unw.seq ?_
        refine Go.r1 c284 rfl rfl (st1 := mk [(0, .v false [.own 0 0 0]), (2, iv m_2), (4, .v false [.im 2 (.clo 170 [.cp [.row 1 (List.map eI fc4_0_0)] 0])]), (10, iv i_10_l2), (11, iv j_11_l2)] [(0, some ⟨0, 0, true, false, false, false, [⟨.sh, 0, 0, .row 1 (List.map eI x46)⟩]⟩)]) (by kernel_rfl) (sq z284 (oMv rfl rfl) <| sq z284 (oMv rfl rfl) <| sq z284 (oBi rfl rfl rfl rfl) <| sq z284 (oAsI rfl rfl) <| nl) ?_
        refine Unw.blk ?_
        refine Unw.nil ?_
        cases h
        exact ⟨rfl, (by kernel_rfl)⟩
    · rw [if_neg hc5] at h
      refine Go.condF rfl (byF iNe hc5) ?_
      refine Go.exit ?_
      refine Unw.seqx ?_
      refine Unw.nil ?_
      cases h
      exact ⟨rfl, (by kernel_rfl)⟩
  · rintro ⟨e, st⟩ hp
    obtain ⟨i_10_e0_2, data_o0_e0_2⟩ := o
    dsimp only at h
    obtain ⟨he, hst⟩ := hp
    obtain rfl : e = .exit 0 := he
    refine Unw.blkx ?_
    refine Unw.seq ?_
    obtain ⟨x57, hx57, h⟩ := bs h
    refine Go.r1 c284 rfl rfl hst (sq z284 (oMv rfl rfl) <| sq z284 (oMv rfl rfl) <| sq z284 (oMv rfl rfl) <| sq z284 (oBi rfl rfl rfl rfl) <| sq z284 (oMv rfl rfl) <| sq z284 (oMv rfl rfl) <| sq z284 (oMv rfl rfl) <| sq z284 (oCa (xs := [.v false [.own 0 0 0], .v false [.im 0 _], .v false [.im 0 _], .v false [.im 0 _], .v false [.im 2 _]]) (vs := []) (v := .tup []) (L_slices_swapRangeCmpFunc_int_170 hx57) (.inl rfl) rfl kF286_267_3_3_3_269 rfl (ppC rfl (ppC rfl (ppC rfl (ppC rfl (ppC rfl pp0))))) rfl rfl (pbO rfl rfl rfl rfl pb0) rfl rfl rfl) <| nl) ?_
    refine Unw.nil ?_
    cases h
    exact Fin_end (fin_of rfl rF284 rfl (by kernel_rfl))
end
end Go.Proofs.Ytigjhjlkdamncaa
