/- The machine answers, at each function of the program that is reached, what its plain function answers. Conditions: none. -/
import Derived.Test.YtigjhjlkdamncaaProg
import Derived.KernelRfl
import Derived.Test.YtigjhjlkdamncaaSimRf
import Derived.Test.YtigjhjlkdamncaaTfsT
namespace Go.Proofs.Ytigjhjlkdamncaa
open Go Go.Sim Go.Pw Go.Proofs
set_option linter.unusedVariables false
set_option linter.unusedSimpArgs false
set_option maxRecDepth 100000
set_option maxHeartbeats 4000000
noncomputable section

def e_S_Step (x : S_Step) : AV := .agg [.sc (.int .i64 x.Kind), .sc (.int .i64 x.A), .sc (.int .i64 x.B)]
def e_S_l21Search (x : S_l21Search) : AV := .agg [.sc (.int .i64 x.hardness), .sc (.int .i64 x.target), .sc (.int .i64 x.tolerance), .row 3 (List.map e_S_Step x.menu), .row 3 (List.map e_S_Step x.steps), .sc (.int .i64 x.depth), .sc (.int .i64 x.nodes), .sc (.int .i64 x.budget)]
def e_S_stepSearch (x : S_stepSearch) : AV := .agg [.sc (.string x.species), .sc (.int .i64 x.target), .sc (.int .i64 x.tolerance), .row 3 (List.map e_S_Step x.menu), .sc (.int .i64 x.left)]

def fc6 : FCfg := { par := [.cst false, .cst false, .cst false, .cst false, .cst false, .cst false], inn := [(16, some ([0, 1, 2, 3, 4, 5, 14, 15, 17, 18, 19], [14, 17])), (20, some ([0, 1, 2, 3, 4, 5, 14, 15, 17, 20], [14, 17]))], out := [(10, some ([0, 1, 2, 3, 4, 5, 14, 15, 16, 17, 18, 63], [14, 16, 17])), (16, some ([0, 1, 2, 3, 4, 5, 14, 15, 17, 84], [14, 17])), (27, some ([17, 20, 115], [17]))], loopK := [], frz := [], sch := [] }
def fc40 : FCfg := { par := [.cst false, .cst false], inn := [], out := [], loopK := [], frz := [], sch := [] }
def fc41 : FCfg := { par := [.cst false, .cst false, .cst false, .cst false, .cst false, .cst false], inn := [(8, some ([1, 5, 14], [47])), (12, some ([1, 5, 14], [47])), (13, some ([1, 5, 14, 15], [47])), (17, some ([], []))], out := [(3, some ([0, 1, 2, 3, 4, 5, 36], []))], loopK := [(9, ([1, 5, 14], [47]))], frz := [], sch := [] }
def fc42 : FCfg := { par := [.cst false], inn := [(4, some ([0, 3, 4], [3])), (6, some ([3], [3]))], out := [], loopK := [(3, ([0, 3, 4], [3]))], frz := [], sch := [] }
def fc43 : FCfg := { par := [.cst false, .cst false, .cst false, .cst false, .cst false, .cst false], inn := [(8, some ([1, 14], [51])), (12, some ([1, 14, 16, 17, 52], [16, 51])), (15, some ([], []))], out := [(3, some ([0, 1, 2, 3, 4, 5, 22], []))], loopK := [(9, ([1, 14, 52], [51]))], frz := [], sch := [] }
def fc44 : FCfg := { par := [.cst false, .cst false], inn := [(8, some ([], []))], out := [(6, some ([0, 1, 5, 26], []))], loopK := [(4, ([0, 1, 5], []))], frz := [], sch := [(6, .first 0 [2, 3, 8, 9] [1, 4, 5, 6, 7] (.first 1 [2, 3, 8, 9] [4, 5, 6, 7] (.first 2 [3, 8, 9] [4, 5, 6, 7] (.first 3 [8, 9] [4, 5, 6, 7] (.first 4 [6, 7, 8, 9] [5] (.first 5 [6, 7, 8, 9] [] (.first 6 [7, 8, 9] [] (.first 7 [8, 9] [] (.fork 8 (.first 9 [] [] (.done)) (.stop))))))))))] }
def fc45 : FCfg := { par := [.row, .cst false], inn := [(5, some ([0, 1, 5], [0])), (7, some ([0, 1, 5], [0])), (9, some ([0, 1, 5], [0])), (10, some ([1], [0]))], out := [], loopK := [(2, ([0, 1, 5], [0]))], frz := [], sch := [] }
def fc46 : FCfg := { par := [.cst false, .cst false], inn := [(13, some ([1], []))], out := [], loopK := [(2, ([0, 1, 5], []))], frz := [], sch := [] }
def fc92 : FCfg := { par := [.cst false, .cst false, .cst false], inn := [], out := [(1, some ([6], []))], loopK := [], frz := [], sch := [] }
def fc102 : FCfg := { par := [.cst false, .cst false, .cst false], inn := [], out := [(1, some ([6], []))], loopK := [], frz := [], sch := [] }
def fc117 : FCfg := { par := [.cst false], inn := [(6, some ([0], []))], out := [], loopK := [(2, ([0, 3], []))], frz := [], sch := [] }
def fc118 : FCfg := { par := [.cst false], inn := [(7, some ([], []))], out := [], loopK := [(3, ([0, 3, 4], [3]))], frz := [], sch := [] }
def fc119 : FCfg := { par := [.cst false], inn := [], out := [], loopK := [], frz := [], sch := [] }
def fc120 : FCfg := { par := [.ptr [.imm, .imm, .imm, .imm, .sh, .imm, .imm, .imm], .cst false], inn := [(2, some ([0, 1], [0])), (13, some ([], [0]))], out := [(2, some ([0, 1, 21], [0])), (4, some ([0, 1, 31], [0])), (5, some ([4], [0])), (9, some ([0, 1, 5], [0])), (10, some ([0, 1, 5, 90], [0])), (12, some ([0, 1, 5], [0]))], loopK := [(7, ([0, 1, 5], [0]))], frz := [], sch := [(2, .first 0 [1, 2, 3, 8] [4, 5, 6, 7] (.first 1 [2, 3, 8] [4, 5, 6, 7] (.first 2 [3, 8] [4, 5, 6, 7] (.first 3 [8] [4, 5, 6, 7] (.first 4 [5, 6, 7, 8] [] (.first 5 [6, 7, 8] [] (.first 6 [7, 8] [] (.first 7 [8] [] (.first 8 [] [] (.done)))))))))), (4, .first 0 [1, 2, 3, 4, 9] [5, 6, 7, 8] (.first 1 [2, 3, 4, 9] [5, 6, 7, 8] (.first 2 [3, 4, 9] [5, 6, 7, 8] (.first 3 [4, 9] [5, 6, 7, 8] (.first 4 [9] [5, 6, 7, 8] (.first 5 [6, 7, 8, 9] [] (.first 6 [7, 8, 9] [] (.first 7 [8, 9] [] (.first 8 [9] [] (.first 9 [] [] (.done))))))))))), (5, .first 0 [19, 20] [1, 2, 3, 4, 5, 6, 7, 8, 9, 10, 11, 12, 13, 14, 15, 16, 17, 18] (.first 1 [2, 3, 4, 9, 19, 20] [5, 6, 7, 8, 10, 11, 12, 13, 14, 15, 16, 17, 18] (.first 2 [3, 4, 9, 19, 20] [5, 6, 7, 8, 10, 11, 12, 13, 14, 15, 16, 17, 18] (.first 3 [4, 9, 19, 20] [5, 6, 7, 8, 10, 11, 12, 13, 14, 15, 16, 17, 18] (.first 4 [9, 19, 20] [5, 6, 7, 8, 10, 11, 12, 13, 14, 15, 16, 17, 18] (.first 5 [6, 7, 8, 9, 19, 20] [10, 11, 12, 13, 14, 15, 16, 17, 18] (.first 6 [7, 8, 9, 19, 20] [10, 11, 12, 13, 14, 15, 16, 17, 18] (.first 7 [8, 9, 19, 20] [10, 11, 12, 13, 14, 15, 16, 17, 18] (.first 8 [9, 19, 20] [10, 11, 12, 13, 14, 15, 16, 17, 18] (.first 9 [19, 20] [10, 11, 12, 13, 14, 15, 16, 17, 18] (.first 10 [11, 12, 13, 18, 19, 20] [14, 15, 16, 17] (.first 11 [12, 13, 18, 19, 20] [14, 15, 16, 17] (.first 12 [13, 18, 19, 20] [14, 15, 16, 17] (.first 13 [18, 19, 20] [14, 15, 16, 17] (.first 14 [15, 16, 17, 18, 19, 20] [] (.first 15 [16, 17, 18, 19, 20] [] (.first 16 [17, 18, 19, 20] [] (.first 17 [18, 19, 20] [] (.first 18 [19, 20] [] (.fork 19 (.fork 20 (.done) (.stop)) (.stop))))))))))))))))))))), (9, .first 0 [14, 15, 16] [1, 2, 3, 4, 5, 6, 7, 8, 9, 10, 11, 12, 13] (.first 1 [2, 3, 4, 13, 14, 15, 16] [5, 6, 7, 8, 9, 10, 11, 12] (.first 5 [6, 7, 8, 10, 11, 12, 13, 14, 15, 16] [2, 3, 4, 9] (.first 6 [7, 8, 10, 11, 12, 13, 14, 15, 16] [2, 3, 4, 9] (.first 7 [8, 10, 11, 12, 13, 14, 15, 16] [2, 3, 4, 9] (.first 8 [10, 11, 12, 13, 14, 15, 16] [2, 3, 4, 9] (.first 9 [10, 11, 12, 13, 14, 15, 16] [2, 3, 4] (.first 10 [11, 12, 13, 14, 15, 16] [2, 3, 4] (.first 11 [12, 13, 14, 15, 16] [2, 3, 4] (.first 2 [3, 4, 13, 14, 15, 16] [12] (.first 3 [4, 13, 14, 15, 16] [12] (.first 4 [13, 14, 15, 16] [12] (.fork 12 (.fork 13 (.first 14 [15, 16] [] (.first 15 [16] [] (.fork 16 (.done) (.stop)))) (.stop)) (.stop)))))))))))))), (10, .first 0 [13] [1, 2, 3, 4, 5, 6, 7, 8, 9, 10, 11, 12] (.first 1 [2, 3, 4, 12, 13] [5, 6, 7, 8, 9, 10, 11] (.first 2 [3, 4, 12, 13] [5, 6, 7, 8, 9, 10, 11] (.first 3 [4, 12, 13] [5, 6, 7, 8, 9, 10, 11] (.first 4 [12, 13] [5, 6, 7, 8, 9, 10, 11] (.first 5 [12, 13] [6, 7, 8, 9, 10, 11] (.first 6 [7, 8, 9, 11, 12, 13] [10] (.first 7 [8, 9, 11, 12, 13] [10] (.first 8 [9, 11, 12, 13] [10] (.first 9 [11, 12, 13] [10] (.first 10 [11, 12, 13] [] (.first 11 [12, 13] [] (.fork 12 (.fork 13 (.done) (.stop)) (.stop)))))))))))))), (12, .first 0 [12, 13, 14] [1, 2, 3, 4, 5, 6, 7, 8, 9, 10, 11] (.first 1 [2, 3, 4, 11, 12, 13, 14] [5, 6, 7, 8, 9, 10] (.first 2 [3, 4, 11, 12, 13, 14] [5, 6, 7, 8, 9, 10] (.first 3 [4, 11, 12, 13, 14] [5, 6, 7, 8, 9, 10] (.first 4 [11, 12, 13, 14] [5, 6, 7, 8, 9, 10] (.first 5 [6, 7, 8, 9, 10, 11, 12, 13, 14] [] (.first 6 [7, 8, 9, 10, 11, 12, 13, 14] [] (.first 7 [8, 9, 10, 11, 12, 13, 14] [] (.first 8 [9, 10, 11, 12, 13, 14] [] (.first 9 [10, 11, 12, 13, 14] [] (.first 10 [11, 12, 13, 14] [] (.fork 11 (.first 12 [13, 14] [] (.first 13 [14] [] (.fork 14 (.done) (.stop)))) (.stop)))))))))))))] }
def fc121 : FCfg := { par := [.cst false], inn := [(3, some ([1, 2, 3], [1, 2, 3])), (4, some ([1, 2, 3], [1, 2, 3])), (5, some ([2, 3], [2, 3]))], out := [], loopK := [], frz := [], sch := [] }
def fc122 : FCfg := { par := [.cst false], inn := [], out := [(1, some ([2], []))], loopK := [], frz := [], sch := [] }
def fc123 : FCfg := { par := [.cst false], inn := [], out := [], loopK := [], frz := [], sch := [] }
def fc124 : FCfg := { par := [.ptr [.imm, .imm, .imm, .imm, .imm], .mv, .cst false, .cst false], inn := [(4, some ([0, 1, 2, 3], [0, 1])), (11, some ([0, 1, 2, 3, 11, 46, 47, 48], [0, 1, 11])), (15, some ([], [0]))], out := [(5, some ([1, 41], [0, 1])), (11, some ([0, 1, 2, 3, 12, 13, 46, 47, 48], [0, 1, 12]))], loopK := [(9, ([0, 1, 2, 3, 46, 47, 48], [0, 1]))], frz := [], sch := [(5, .first 0 [5, 6, 11] [1, 2, 3, 4, 7, 8, 9, 10] (.first 1 [2, 3, 4, 5, 6, 11] [7, 8, 9, 10] (.first 2 [3, 4, 5, 6, 11] [7, 8, 9, 10] (.first 3 [4, 5, 6, 11] [7, 8, 9, 10] (.first 4 [5, 6, 11] [7, 8, 9, 10] (.first 5 [6, 11] [7, 8, 9, 10] (.first 7 [8, 9, 10, 11] [6] (.first 8 [9, 10, 11] [6] (.first 9 [10, 11] [6] (.first 10 [11] [6] (.fork 6 (.first 11 [] [] (.done)) (.stop)))))))))))), (11, .first 0 [14, 15, 16, 17, 18, 19] [1, 2, 3, 4, 5, 6, 7, 8, 9, 10, 11, 12, 13] (.first 1 [2, 5, 12, 14, 15, 16, 17, 18, 19] [3, 4, 6, 7, 8, 9, 10, 11, 13] (.first 3 [4, 5, 12, 14, 15, 16, 17, 18, 19] [2, 6, 7, 8, 9, 10, 11, 13] (.first 6 [7, 8, 9, 12, 14, 15, 16, 17, 18, 19] [2, 4, 5, 10, 11, 13] (.first 10 [12, 14, 15, 16, 17, 18, 19] [2, 4, 5, 7, 8, 9, 11, 13] (.first 13 [14, 15, 16, 17, 18, 19] [2, 4, 5, 7, 8, 9, 11, 12] (.first 7 [8, 9, 12, 14, 15, 16, 17, 18, 19] [2, 4, 5, 11] (.first 8 [9, 12, 14, 15, 16, 17, 18, 19] [2, 4, 5, 11] (.first 9 [12, 14, 15, 16, 17, 18, 19] [2, 4, 5, 11] (.first 11 [12, 14, 15, 16, 17, 18, 19] [2, 4, 5] (.fork 2 (.fork 4 (.fork 5 (.fork 12 (.fork 14 (.first 15 [16, 17, 18, 19] [] (.first 16 [18, 19] [17] (.first 17 [19] [18] (.fork 18 (.fork 19 (.done) (.stop)) (.stop))))) (.stop)) (.stop)) (.stop)) (.stop)) (.fork 4 (.fork 2 (.fork 5 (.fork 12 (.fork 14 (.first 15 [16, 17, 18, 19] [] (.first 16 [18, 19] [17] (.first 17 [19] [18] (.fork 18 (.fork 19 (.done) (.stop)) (.stop))))) (.stop)) (.stop)) (.stop)) (.stop)) (.stop)))))))))))))] }
def fc125 : FCfg := { par := [.cst false, .cst false], inn := [], out := [], loopK := [], frz := [], sch := [] }
def fc200 : FCfg := { par := [.cst false], inn := [], out := [(3, some ([2], [])), (5, some ([2], [])), (7, some ([2], []))], loopK := [], frz := [], sch := [(3, .first 0 [1, 2, 3, 8, 9] [4, 5, 6, 7] (.first 1 [2, 3, 8, 9] [4, 5, 6, 7] (.first 2 [3, 8, 9] [4, 5, 6, 7] (.first 3 [8, 9] [4, 5, 6, 7] (.first 4 [5, 6, 7, 8, 9] [] (.first 5 [6, 7, 8, 9] [] (.first 6 [7, 8, 9] [] (.first 7 [8, 9] [] (.fork 8 (.fork 9 (.done) (.stop)) (.stop))))))))))] }
def fc201 : FCfg := { par := [], inn := [], out := [], loopK := [], frz := [], sch := [] }
def fc202 : FCfg := { par := [], inn := [], out := [], loopK := [], frz := [], sch := [] }
def fc203 : FCfg := { par := [.cst false, .cst false, .cst false], inn := [], out := [(3, some ([6], [])), (5, some ([6], []))], loopK := [], frz := [], sch := [(3, .first 0 [11, 12, 13] [1, 2, 3, 4, 5, 6, 7, 8, 9, 10] (.first 1 [10, 11, 12, 13] [2, 3, 4, 5, 6, 7, 8, 9] (.first 2 [3, 4, 5, 10, 11, 12, 13] [6, 7, 8, 9] (.first 3 [4, 5, 10, 11, 12, 13] [6, 7, 8, 9] (.first 4 [5, 10, 11, 12, 13] [6, 7, 8, 9] (.first 5 [10, 11, 12, 13] [6, 7, 8, 9] (.first 6 [7, 8, 9, 10, 11, 12, 13] [] (.first 7 [8, 9, 10, 11, 12, 13] [] (.first 8 [9, 10, 11, 12, 13] [] (.first 9 [10, 11, 12, 13] [] (.fork 10 (.first 11 [12, 13] [] (.fork 12 (.fork 13 (.done) (.stop)) (.stop))) (.stop)))))))))))), (5, .first 0 [13, 14] [1, 2, 3, 4, 5, 6, 7, 8, 9, 10, 11, 12] (.first 1 [2, 3, 4, 6, 11, 12, 13, 14] [5, 7, 8, 9, 10] (.first 2 [3, 4, 6, 11, 12, 13, 14] [5, 7, 8, 9, 10] (.first 3 [4, 6, 11, 12, 13, 14] [5, 7, 8, 9, 10] (.first 4 [6, 11, 12, 13, 14] [5, 7, 8, 9, 10] (.first 5 [6, 11, 12, 13, 14] [7, 8, 9, 10] (.first 6 [11, 12, 13, 14] [7, 8, 9, 10] (.first 7 [8, 9, 10, 11, 12, 13, 14] [] (.first 8 [9, 10, 11, 12, 13, 14] [] (.first 9 [10, 11, 12, 13, 14] [] (.first 10 [11, 12, 13, 14] [] (.first 11 [12, 13, 14] [] (.fork 12 (.first 13 [14] [] (.fork 14 (.done) (.stop))) (.stop))))))))))))))] }
def fc204 : FCfg := { par := [.cst false, .cst false], inn := [], out := [], loopK := [], frz := [], sch := [] }
def fc205 : FCfg := { par := [.cst false], inn := [], out := [], loopK := [], frz := [], sch := [] }
def fc206 : FCfg := { par := [.cst false], inn := [], out := [(3, some ([2], [])), (5, some ([2], [])), (7, some ([2], []))], loopK := [], frz := [], sch := [] }
def fc207 : FCfg := { par := [.cst false], inn := [], out := [], loopK := [], frz := [], sch := [] }
def fc208 : FCfg := { par := [.cst false], inn := [], out := [], loopK := [], frz := [], sch := [] }
def fc210 : FCfg := { par := [.cst false, .cst false, .cst false], inn := [], out := [], loopK := [], frz := [], sch := [] }
def fc254 : FCfg := { par := [.cst false, .cst false], inn := [], out := [(1, some ([4], []))], loopK := [], frz := [], sch := [] }
def fc255 : FCfg := { par := [.cst false, .cst false], inn := [], out := [], loopK := [], frz := [], sch := [] }
def fc256 : FCfg := { par := [.cst false, .cst false, .cst false], inn := [], out := [], loopK := [], frz := [], sch := [] }
def fc257 : FCfg := { par := [.cst false, .cst false], inn := [(4, some ([0, 1], []))], out := [], loopK := [], frz := [], sch := [] }
def fc258 : FCfg := { par := [.cst false, .cst false], inn := [], out := [], loopK := [], frz := [], sch := [] }
def fc259 : FCfg := { par := [.cst false, .cst false], inn := [(7, some ([], []))], out := [], loopK := [(2, ([0, 1, 7, 8], []))], frz := [], sch := [] }
def fc260 : FCfg := { par := [.cst false], inn := [], out := [], loopK := [], frz := [], sch := [] }
def fc261 : FCfg := { par := [.cst false, .cst false, .cst false], inn := [], out := [], loopK := [], frz := [], sch := [] }
def fc262 : FCfg := { par := [.cst false, .cst false], inn := [(9, some ([5, 6], []))], out := [], loopK := [], frz := [], sch := [] }
def fcs : List (Nat × FCfg) := [(6, fc6), (40, fc40), (41, fc41), (42, fc42), (43, fc43), (44, fc44), (45, fc45), (46, fc46), (92, fc92), (102, fc102), (117, fc117), (118, fc118), (119, fc119), (120, fc120), (121, fc121), (122, fc122), (123, fc123), (124, fc124), (125, fc125), (200, fc200), (201, fc201), (202, fc202), (203, fc203), (204, fc204), (205, fc205), (206, fc206), (207, fc207), (208, fc208), (210, fc210), (254, fc254), (255, fc255), (256, fc256), (257, fc257), (258, fc258), (259, fc259), (260, fc260), (261, fc261), (262, fc262)]
def ons : List (Nat × Bool) := [(6, true), (40, true), (41, true), (42, true), (43, true), (44, true), (45, true), (46, true), (92, true), (102, true), (117, true), (118, true), (119, true), (120, true), (121, true), (122, true), (123, true), (124, true), (125, true), (200, true), (201, true), (202, true), (203, true), (204, true), (205, true), (206, true), (207, true), (208, true), (210, true), (254, true), (255, true), (256, true), (257, true), (258, true), (259, true), (260, true), (261, true), (262, true)]
def cfg : Cfg := mkCfg ons fcs [(209, some (extCloneN 3 24))]
theorem c6 : cfg.fc 6 = fc6 := rfl
theorem z6 : (cfg.fc 6).frz = [] := rfl
theorem c40 : cfg.fc 40 = fc40 := rfl
theorem z40 : (cfg.fc 40).frz = [] := rfl
theorem c41 : cfg.fc 41 = fc41 := rfl
theorem z41 : (cfg.fc 41).frz = [] := rfl
theorem c42 : cfg.fc 42 = fc42 := rfl
theorem z42 : (cfg.fc 42).frz = [] := rfl
theorem c43 : cfg.fc 43 = fc43 := rfl
theorem z43 : (cfg.fc 43).frz = [] := rfl
theorem c44 : cfg.fc 44 = fc44 := rfl
theorem z44 : (cfg.fc 44).frz = [] := rfl
theorem c45 : cfg.fc 45 = fc45 := rfl
theorem z45 : (cfg.fc 45).frz = [] := rfl
theorem c46 : cfg.fc 46 = fc46 := rfl
theorem z46 : (cfg.fc 46).frz = [] := rfl
theorem c92 : cfg.fc 92 = fc92 := rfl
theorem z92 : (cfg.fc 92).frz = [] := rfl
theorem c102 : cfg.fc 102 = fc102 := rfl
theorem z102 : (cfg.fc 102).frz = [] := rfl
theorem c117 : cfg.fc 117 = fc117 := rfl
theorem z117 : (cfg.fc 117).frz = [] := rfl
theorem c118 : cfg.fc 118 = fc118 := rfl
theorem z118 : (cfg.fc 118).frz = [] := rfl
theorem c119 : cfg.fc 119 = fc119 := rfl
theorem z119 : (cfg.fc 119).frz = [] := rfl
theorem c120 : cfg.fc 120 = fc120 := rfl
theorem z120 : (cfg.fc 120).frz = [] := rfl
theorem c121 : cfg.fc 121 = fc121 := rfl
theorem z121 : (cfg.fc 121).frz = [] := rfl
theorem c122 : cfg.fc 122 = fc122 := rfl
theorem z122 : (cfg.fc 122).frz = [] := rfl
theorem c123 : cfg.fc 123 = fc123 := rfl
theorem z123 : (cfg.fc 123).frz = [] := rfl
theorem c124 : cfg.fc 124 = fc124 := rfl
theorem z124 : (cfg.fc 124).frz = [] := rfl
theorem c125 : cfg.fc 125 = fc125 := rfl
theorem z125 : (cfg.fc 125).frz = [] := rfl
theorem c200 : cfg.fc 200 = fc200 := rfl
theorem z200 : (cfg.fc 200).frz = [] := rfl
theorem c201 : cfg.fc 201 = fc201 := rfl
theorem z201 : (cfg.fc 201).frz = [] := rfl
theorem c202 : cfg.fc 202 = fc202 := rfl
theorem z202 : (cfg.fc 202).frz = [] := rfl
theorem c203 : cfg.fc 203 = fc203 := rfl
theorem z203 : (cfg.fc 203).frz = [] := rfl
theorem c204 : cfg.fc 204 = fc204 := rfl
theorem z204 : (cfg.fc 204).frz = [] := rfl
theorem c205 : cfg.fc 205 = fc205 := rfl
theorem z205 : (cfg.fc 205).frz = [] := rfl
theorem c206 : cfg.fc 206 = fc206 := rfl
theorem z206 : (cfg.fc 206).frz = [] := rfl
theorem c207 : cfg.fc 207 = fc207 := rfl
theorem z207 : (cfg.fc 207).frz = [] := rfl
theorem c208 : cfg.fc 208 = fc208 := rfl
theorem z208 : (cfg.fc 208).frz = [] := rfl
theorem c210 : cfg.fc 210 = fc210 := rfl
theorem z210 : (cfg.fc 210).frz = [] := rfl
theorem c254 : cfg.fc 254 = fc254 := rfl
theorem z254 : (cfg.fc 254).frz = [] := rfl
theorem c255 : cfg.fc 255 = fc255 := rfl
theorem z255 : (cfg.fc 255).frz = [] := rfl
theorem c256 : cfg.fc 256 = fc256 := rfl
theorem z256 : (cfg.fc 256).frz = [] := rfl
theorem c257 : cfg.fc 257 = fc257 := rfl
theorem z257 : (cfg.fc 257).frz = [] := rfl
theorem c258 : cfg.fc 258 = fc258 := rfl
theorem z258 : (cfg.fc 258).frz = [] := rfl
theorem c259 : cfg.fc 259 = fc259 := rfl
theorem z259 : (cfg.fc 259).frz = [] := rfl
theorem c260 : cfg.fc 260 = fc260 := rfl
theorem z260 : (cfg.fc 260).frz = [] := rfl
theorem c261 : cfg.fc 261 = fc261 := rfl
theorem z261 : (cfg.fc 261).frz = [] := rfl
theorem c262 : cfg.fc 262 = fc262 := rfl
theorem z262 : (cfg.fc 262).frz = [] := rfl
theorem bF176 : buildF Try.prog 176 = some ([.im 0 (.sc (.int .i64 0)), .im 0 (.sc (.int .i64 0)), .im 0 (.sc (.int .i64 0)), .nil, .nil, .im 0 (.sc (.int .i64 0)), .im 0 (.sc (.int .i64 0)), .im 0 (.sc (.int .i64 0))], [(0, 1), (1, 1), (2, 1), (3, 1), (4, 1), (5, 1), (6, 1), (7, 1)]) := by kernel_rfl
theorem bF184 : buildF Try.prog 184 = some ([.im 0 (.sc (.string ⟨#[]⟩)), .im 0 (.sc (.int .i64 0)), .im 0 (.sc (.int .i64 0)), .nil, .im 0 (.sc (.int .i64 0))], [(0, 1), (1, 1), (2, 1), (3, 1), (4, 1)]) := by kernel_rfl
theorem eF296 : elemSz Try.prog 296 = some (9, 1) := by kernel_rfl
theorem eF298 : elemSz Try.prog 298 = some (27, 1) := by kernel_rfl
theorem eF63 : elemSz Try.prog 63 = some (178, 3) := by kernel_rfl
theorem fF176_0 : fieldF Try.prog 176 0 = some 0 := by kernel_rfl
theorem fF176_1 : fieldF Try.prog 176 1 = some 1 := by kernel_rfl
theorem fF176_2 : fieldF Try.prog 176 2 = some 2 := by kernel_rfl
theorem fF176_3 : fieldF Try.prog 176 3 = some 3 := by kernel_rfl
theorem fF176_4 : fieldF Try.prog 176 4 = some 4 := by kernel_rfl
theorem fF176_5 : fieldF Try.prog 176 5 = some 5 := by kernel_rfl
theorem fF176_6 : fieldF Try.prog 176 6 = some 6 := by kernel_rfl
theorem fF176_7 : fieldF Try.prog 176 7 = some 7 := by kernel_rfl
theorem fF178_0 : fieldF Try.prog 178 0 = some 0 := by kernel_rfl
theorem fF178_1 : fieldF Try.prog 178 1 = some 1 := by kernel_rfl
theorem fF178_2 : fieldF Try.prog 178 2 = some 2 := by kernel_rfl
theorem fF180_0 : fieldF Try.prog 180 0 = some 0 := by kernel_rfl
theorem fF180_1 : fieldF Try.prog 180 1 = some 1 := by kernel_rfl
theorem fF180_2 : fieldF Try.prog 180 2 = some 2 := by kernel_rfl
theorem fF184_0 : fieldF Try.prog 184 0 = some 0 := by kernel_rfl
theorem fF184_1 : fieldF Try.prog 184 1 = some 1 := by kernel_rfl
theorem fF184_2 : fieldF Try.prog 184 2 = some 2 := by kernel_rfl
theorem fF184_3 : fieldF Try.prog 184 3 = some 3 := by kernel_rfl
theorem fF184_4 : fieldF Try.prog 184 4 = some 4 := by kernel_rfl
theorem kF102_2_2_2 : callK Try.prog cfg 102 0 [2, 2, 2] = [(.cst false, [none]), (.cst false, [none]), (.cst false, [none])] := by kernel_rfl
theorem kF117_63 : callK Try.prog cfg 117 0 [63] = [(.cst false, [some 3])] := by kernel_rfl
theorem kF118_9 : callK Try.prog cfg 118 0 [9] = [(.cst false, [none])] := by kernel_rfl
theorem kF119_9 : callK Try.prog cfg 119 0 [9] = [(.cst false, [none])] := by kernel_rfl
theorem kF120_173_2 : callK Try.prog cfg 120 0 [173, 2] = [(.ptr [.imm, .imm, .imm, .imm, .sh, .imm, .imm, .imm], [none]), (.cst false, [none])] := by kernel_rfl
theorem kF121_180 : callK Try.prog cfg 121 0 [180] = [(.cst false, [none, none, none])] := by kernel_rfl
theorem kF122_63 : callK Try.prog cfg 122 0 [63] = [(.cst false, [some 3])] := by kernel_rfl
theorem kF123_9 : callK Try.prog cfg 123 0 [9] = [(.cst false, [none])] := by kernel_rfl
theorem kF124_182_63_2_3 : callK Try.prog cfg 124 0 [182, 63, 2, 3] = [(.ptr [.imm, .imm, .imm, .imm, .imm], [none]), (.mv, [some 3]), (.cst false, [none]), (.cst false, [none])] := by kernel_rfl
theorem kF125_178_178 : callK Try.prog cfg 125 0 [178, 178] = [(.cst false, [none, none, none]), (.cst false, [none, none, none])] := by kernel_rfl
theorem kF200_295 : callK Try.prog cfg 200 0 [295] = [(.cst false, [none])] := by kernel_rfl
theorem kF201_ : callK Try.prog cfg 201 0 [] = [] := by kernel_rfl
theorem kF202_ : callK Try.prog cfg 202 0 [] = [] := by kernel_rfl
theorem kF203_2_2_295 : callK Try.prog cfg 203 0 [2, 2, 295] = [(.cst false, [none]), (.cst false, [none]), (.cst false, [none])] := by kernel_rfl
theorem kF204_63_302 : callK Try.prog cfg 204 0 [63, 302] = [(.cst false, [some 3]), (.cst false, [none])] := by kernel_rfl
theorem kF205_178 : callK Try.prog cfg 205 0 [178] = [(.cst false, [none, none, none])] := by kernel_rfl
theorem kF206_178 : callK Try.prog cfg 206 0 [178] = [(.cst false, [none, none, none])] := by kernel_rfl
theorem kF207_9 : callK Try.prog cfg 207 0 [9] = [(.cst false, [none])] := by kernel_rfl
theorem kF208_2 : callK Try.prog cfg 208 0 [2] = [(.cst false, [none])] := by kernel_rfl
theorem kF209_63 : callK Try.prog cfg 209 0 [63] = [(.cst false, [some 3])] := by kernel_rfl
theorem kF210_9_2_178 : callK Try.prog cfg 210 0 [9, 2, 178] = [(.cst false, [none]), (.cst false, [none]), (.cst false, [none, none, none])] := by kernel_rfl
theorem kF254_2_2 : callK Try.prog cfg 254 0 [2, 2] = [(.cst false, [none]), (.cst false, [none])] := by kernel_rfl
theorem kF255_2_2 : callK Try.prog cfg 255 0 [2, 2] = [(.cst false, [none]), (.cst false, [none])] := by kernel_rfl
theorem kF256_2_2_2 : callK Try.prog cfg 256 0 [2, 2, 2] = [(.cst false, [none]), (.cst false, [none]), (.cst false, [none])] := by kernel_rfl
theorem kF257_2_2 : callK Try.prog cfg 257 0 [2, 2] = [(.cst false, [none]), (.cst false, [none])] := by kernel_rfl
theorem kF258_2_2 : callK Try.prog cfg 258 0 [2, 2] = [(.cst false, [none]), (.cst false, [none])] := by kernel_rfl
theorem kF259_63_302 : callK Try.prog cfg 259 0 [63, 302] = [(.cst false, [some 3]), (.cst false, [none])] := by kernel_rfl
theorem kF260_9 : callK Try.prog cfg 260 0 [9] = [(.cst false, [none])] := by kernel_rfl
theorem kF261_9_2_2 : callK Try.prog cfg 261 0 [9, 2, 2] = [(.cst false, [none]), (.cst false, [none]), (.cst false, [none])] := by kernel_rfl
theorem kF262_2_2 : callK Try.prog cfg 262 0 [2, 2] = [(.cst false, [none]), (.cst false, [none])] := by kernel_rfl
theorem kF40_61_3 : callK Try.prog cfg 40 0 [61, 3] = [(.cst false, [some 3]), (.cst false, [none])] := by kernel_rfl
theorem kF41_9_2_2_2_63_2 : callK Try.prog cfg 41 0 [9, 2, 2, 2, 63, 2] = [(.cst false, [none]), (.cst false, [none]), (.cst false, [none]), (.cst false, [none]), (.cst false, [some 3]), (.cst false, [none])] := by kernel_rfl
theorem kF42_61 : callK Try.prog cfg 42 0 [61] = [(.cst false, [some 3])] := by kernel_rfl
theorem kF43_9_2_2_2_63_2 : callK Try.prog cfg 43 0 [9, 2, 2, 2, 63, 2] = [(.cst false, [none]), (.cst false, [none]), (.cst false, [none]), (.cst false, [none]), (.cst false, [some 3]), (.cst false, [none])] := by kernel_rfl
theorem kF44_63_63 : callK Try.prog cfg 44 0 [63, 63] = [(.cst false, [some 3]), (.cst false, [some 3])] := by kernel_rfl
theorem kF45_63_3 : callK Try.prog cfg 45 0 [63, 3] = [(.row, [some 3]), (.cst false, [none])] := by kernel_rfl
theorem kF46_63_3 : callK Try.prog cfg 46 0 [63, 3] = [(.cst false, [some 3]), (.cst false, [none])] := by kernel_rfl
theorem kF92_2_2_2 : callK Try.prog cfg 92 0 [2, 2, 2] = [(.cst false, [none]), (.cst false, [none]), (.cst false, [none])] := by kernel_rfl
theorem rF102 : resK Try.prog (Try.f102.results.toList.zip Try.f102.resultTypes.toList) = [(.tmp 6, [none], none)] := by kernel_rfl
theorem rF117 : resK Try.prog (Try.f117.results.toList.zip Try.f117.resultTypes.toList) = [(.tmp 2, [none], none)] := by kernel_rfl
theorem rF118 : resK Try.prog (Try.f118.results.toList.zip Try.f118.resultTypes.toList) = [(.tmp 2, [none], none)] := by kernel_rfl
theorem rF119 : resK Try.prog (Try.f119.results.toList.zip Try.f119.resultTypes.toList) = [(.tmp 2, [none], none)] := by kernel_rfl
theorem rF120 : resK Try.prog (Try.f120.results.toList.zip Try.f120.resultTypes.toList) = [(.tmp 4, [none], none)] := by kernel_rfl
theorem rF121 : resK Try.prog (Try.f121.results.toList.zip Try.f121.resultTypes.toList) = [(.cell 2 178, [none, none, none], some (true, 3))] := by kernel_rfl
theorem rF122 : resK Try.prog (Try.f122.results.toList.zip Try.f122.resultTypes.toList) = [(.tmp 2, [none], none)] := by kernel_rfl
theorem rF123 : resK Try.prog (Try.f123.results.toList.zip Try.f123.resultTypes.toList) = [(.tmp 2, [none], none)] := by kernel_rfl
theorem rF124 : resK Try.prog (Try.f124.results.toList.zip Try.f124.resultTypes.toList) = [(.tmp 8, [some 3], none), (.tmp 9, [none], none)] := by kernel_rfl
theorem rF125 : resK Try.prog (Try.f125.results.toList.zip Try.f125.resultTypes.toList) = [(.tmp 4, [none], none)] := by kernel_rfl
theorem rF200 : resK Try.prog (Try.f200.results.toList.zip Try.f200.resultTypes.toList) = [(.tmp 2, [none], none)] := by kernel_rfl
theorem rF201 : resK Try.prog (Try.f201.results.toList.zip Try.f201.resultTypes.toList) = [(.tmp 0, [some 1], none)] := by kernel_rfl
theorem rF202 : resK Try.prog (Try.f202.results.toList.zip Try.f202.resultTypes.toList) = [(.tmp 0, [some 1], none)] := by kernel_rfl
theorem rF203 : resK Try.prog (Try.f203.results.toList.zip Try.f203.resultTypes.toList) = [(.tmp 6, [none], none)] := by kernel_rfl
theorem rF204 : resK Try.prog (Try.f204.results.toList.zip Try.f204.resultTypes.toList) = [(.tmp 4, [none], none)] := by kernel_rfl
theorem rF205 : resK Try.prog (Try.f205.results.toList.zip Try.f205.resultTypes.toList) = [(.tmp 2, [none], none)] := by kernel_rfl
theorem rF206 : resK Try.prog (Try.f206.results.toList.zip Try.f206.resultTypes.toList) = [(.tmp 2, [none], none)] := by kernel_rfl
theorem rF207 : resK Try.prog (Try.f207.results.toList.zip Try.f207.resultTypes.toList) = [(.tmp 2, [none], none), (.tmp 3, [none], none)] := by kernel_rfl
theorem rF208 : resK Try.prog (Try.f208.results.toList.zip Try.f208.resultTypes.toList) = [(.tmp 2, [none], none)] := by kernel_rfl
theorem rF209 : resK Try.prog (Try.f209.results.toList.zip Try.f209.resultTypes.toList) = [(.tmp 2, [some 3], none)] := by kernel_rfl
theorem rF210 : resK Try.prog (Try.f210.results.toList.zip Try.f210.resultTypes.toList) = [(.tmp 6, [none], none)] := by kernel_rfl
theorem rF254 : resK Try.prog (Try.f254.results.toList.zip Try.f254.resultTypes.toList) = [(.tmp 4, [none], none)] := by kernel_rfl
theorem rF255 : resK Try.prog (Try.f255.results.toList.zip Try.f255.resultTypes.toList) = [(.tmp 4, [none], none)] := by kernel_rfl
theorem rF256 : resK Try.prog (Try.f256.results.toList.zip Try.f256.resultTypes.toList) = [(.tmp 6, [none], none)] := by kernel_rfl
theorem rF257 : resK Try.prog (Try.f257.results.toList.zip Try.f257.resultTypes.toList) = [(.tmp 4, [none], none)] := by kernel_rfl
theorem rF258 : resK Try.prog (Try.f258.results.toList.zip Try.f258.resultTypes.toList) = [(.tmp 4, [none], none)] := by kernel_rfl
theorem rF259 : resK Try.prog (Try.f259.results.toList.zip Try.f259.resultTypes.toList) = [(.tmp 4, [none], none)] := by kernel_rfl
theorem rF260 : resK Try.prog (Try.f260.results.toList.zip Try.f260.resultTypes.toList) = [(.tmp 2, [none], none), (.tmp 3, [none], none), (.tmp 4, [none], none), (.tmp 5, [none], none)] := by kernel_rfl
theorem rF261 : resK Try.prog (Try.f261.results.toList.zip Try.f261.resultTypes.toList) = [(.tmp 6, [none], none)] := by kernel_rfl
theorem rF262 : resK Try.prog (Try.f262.results.toList.zip Try.f262.resultTypes.toList) = [(.tmp 4, [none], none)] := by kernel_rfl
theorem rF40 : resK Try.prog (Try.f40.results.toList.zip Try.f40.resultTypes.toList) = [(.tmp 4, [none], none)] := by kernel_rfl
theorem rF41 : resK Try.prog (Try.f41.results.toList.zip Try.f41.resultTypes.toList) = [(.tmp 12, [some 3], none), (.tmp 13, [none], none)] := by kernel_rfl
theorem rF42 : resK Try.prog (Try.f42.results.toList.zip Try.f42.resultTypes.toList) = [(.tmp 2, [some 3], none)] := by kernel_rfl
theorem rF43 : resK Try.prog (Try.f43.results.toList.zip Try.f43.resultTypes.toList) = [(.tmp 12, [some 3], none), (.tmp 13, [none], none)] := by kernel_rfl
theorem rF44 : resK Try.prog (Try.f44.results.toList.zip Try.f44.resultTypes.toList) = [(.tmp 4, [none], none)] := by kernel_rfl
theorem rF45 : resK Try.prog (Try.f45.results.toList.zip Try.f45.resultTypes.toList) = [(.tmp 4, [none], none)] := by kernel_rfl
theorem rF46 : resK Try.prog (Try.f46.results.toList.zip Try.f46.resultTypes.toList) = [(.tmp 4, [none], none)] := by kernel_rfl
theorem rF6 : resK Try.prog (Try.f6.results.toList.zip Try.f6.resultTypes.toList) = [(.tmp 12, [none], none)] := by kernel_rfl
theorem rF92 : resK Try.prog (Try.f92.results.toList.zip Try.f92.resultTypes.toList) = [(.tmp 6, [none], none)] := by kernel_rfl
theorem sF27 : sliceF Try.prog 27 = some (2, 1, [none], false, 8, [.im 0 (.sc (.int .i64 0))]) := by kernel_rfl
theorem sF296 : sliceF Try.prog 296 = some (9, 1, [none], false, 16, [.im 0 (.sc (.string ⟨#[]⟩))]) := by kernel_rfl
theorem sF298 : sliceF Try.prog 298 = some (27, 1, [some 1], false, 24, [.nil]) := by kernel_rfl
theorem sF61 : sliceF Try.prog 61 = some (180, 3, [none, none, none], true, 24, [.im 0 (.sc (.int .i64 0)), .im 0 (.sc (.int .i64 0)), .im 0 (.sc (.int .i64 0))]) := by kernel_rfl
theorem sF63 : sliceF Try.prog 63 = some (178, 3, [none, none, none], true, 24, [.im 0 (.sc (.int .i64 0)), .im 0 (.sc (.int .i64 0)), .im 0 (.sc (.int .i64 0))]) := by kernel_rfl
theorem tF176 : tyF Try.prog 176 = some ([.im 0 (.sc (.int .i64 0)), .im 0 (.sc (.int .i64 0)), .im 0 (.sc (.int .i64 0)), .nil, .nil, .im 0 (.sc (.int .i64 0)), .im 0 (.sc (.int .i64 0)), .im 0 (.sc (.int .i64 0))], [none, none, none, some 3, some 3, none, none, none], true, 8) := by kernel_rfl
theorem tF178 : tyF Try.prog 178 = some ([.im 0 (.sc (.int .i64 0)), .im 0 (.sc (.int .i64 0)), .im 0 (.sc (.int .i64 0))], [none, none, none], true, 3) := by kernel_rfl
theorem tF180 : tyF Try.prog 180 = some ([.im 0 (.sc (.int .i64 0)), .im 0 (.sc (.int .i64 0)), .im 0 (.sc (.int .i64 0))], [none, none, none], true, 3) := by kernel_rfl
theorem tF184 : tyF Try.prog 184 = some ([.im 0 (.sc (.string ⟨#[]⟩)), .im 0 (.sc (.int .i64 0)), .im 0 (.sc (.int .i64 0)), .nil, .im 0 (.sc (.int .i64 0))], [none, none, none, some 3, none], true, 5) := by kernel_rfl
theorem tF2 : tyF Try.prog 2 = some ([.im 0 (.sc (.int .i64 0))], [none], false, 1) := by kernel_rfl
theorem tF27 : tyF Try.prog 27 = some ([.nil], [some 1], false, 1) := by kernel_rfl
theorem tF3 : tyF Try.prog 3 = some ([.im 0 (.sc (.int .i64 0))], [none], false, 1) := by kernel_rfl
theorem tF63 : tyF Try.prog 63 = some ([.nil], [some 3], false, 1) := by kernel_rfl
theorem tF9 : tyF Try.prog 9 = some ([.im 0 (.sc (.string ⟨#[]⟩))], [none], false, 1) := by kernel_rfl
theorem uF296 : Try.prog.underlying 296 = some (.slice 9) := by kernel_rfl
theorem uF4 : Try.prog.underlying 4 = some .bool := by kernel_rfl
theorem uF61 : Try.prog.underlying 61 = some (.slice 180) := by kernel_rfl
theorem uF63 : Try.prog.underlying 63 = some (.slice 178) := by kernel_rfl
theorem uF9 : Try.prog.underlying 9 = some .string := by kernel_rfl

theorem L_laws_szStepS {a_0 : (List S_Step)} {left_1 : Int} {r : Int} (h : laws_szStepS a_0 left_1 = some r) : FL Try.prog cfg 40 [.im 2 false [.row 3 (List.map e_S_Step a_0)], .im 2 false [.sc (.int .i64 left_1)]] = some ([(false, [.im 0 (.sc (.int .i64 r))])], []) := by
  unfold laws_szStepS at h
  refine FL_goS (A := [(0, .v false [.im 2 (.row 3 (List.map e_S_Step a_0))]), (1, .v false [.im 2 (.sc (.int .i64 left_1))])]) (B := [(0, none), (1, none)]) (nt := 12) rfl rfl Try.func40 rfl rfl rfl rfl ?_
  refine Go.seq ?_
  refine Go.r0 c40 rfl rfl (sq z40 (oAsI rfl rfl) <| nl) ?_
  refine Unw.seq ?_
  refine Go.seq ?_
  refine Go.r0 c40 rfl rfl (sq z40 (oMv rfl rfl) <| sq z40 (oMv rfl rfl) <| sq z40 (oLnI rfl rfl uF61 rfl) <| sq z40 (oBi rfl rfl rfl rfl) <| sq z40 (oAsI rfl rfl) <| nl) ?_
  refine Unw.seq ?_
  refine Go.seq ?_
  refine Go.seq ?_
  refine Go.r0 c40 rfl rfl (sq z40 (oMv rfl rfl) <| sq z40 (oBi rfl rfl rfl rfl) <| nl) ?_
  refine Unw.seq ?_
  by_cases hc1 : (w64 (left_1 - (a_0.length : Int))) < 0
  · rw [if_pos hc1] at h
    refine Go.condT rfl (iDec.2 hc1) ?_
    refine Go.seq ?_
    refine Go.r0 c40 rfl rfl (sq z40 (oAsI rfl rfl) <| nl) ?_
    refine Unw.seq ?_
    refine Go.ret (Unw.ret ?_)
    cases h
    exact Fin_ret (fin_of rfl rF40 rfl (by kernel_rfl))
  · rw [if_neg hc1] at h
    refine Go.condF rfl (byF iDec hc1) ?_
    refine Go.skip ?_
    refine Unw.seq ?_
    refine Go.seq ?_
    refine Go.r0 c40 rfl rfl (sq z40 (oMv rfl rfl) <| sq z40 (oAsI rfl rfl) <| nl) ?_
    refine Unw.seq ?_
    refine Go.ret (Unw.ret ?_)
    cases h
    exact Fin_ret (fin_of rfl rF40 rfl (by kernel_rfl))
theorem L_laws_toStep {a_0 : S_Step} {r : S_Step} (h : laws_toStep a_0 = some r) : FL Try.prog cfg 121 [.im 2 true [.sc (.int .i64 a_0.Kind), .sc (.int .i64 a_0.A), .sc (.int .i64 a_0.B)]] = some ([(true, [.im 0 (.sc (.int .i64 r.Kind)), .im 0 (.sc (.int .i64 r.A)), .im 0 (.sc (.int .i64 r.B))])], []) := by
  unfold laws_toStep at h
  refine FL_goS (A := [(0, .v true [.im 2 (.sc (.int .i64 a_0.Kind)), .im 2 (.sc (.int .i64 a_0.A)), .im 2 (.sc (.int .i64 a_0.B))])]) (B := [(0, none)]) (nt := 14) rfl rfl Try.func121 rfl rfl rfl rfl ?_
  refine Go.seq ?_
  refine Go.r0 c121 rfl rfl (sq z121 (oBx rfl tF180 rfl (tkI (tkI (tkI tk0)))) <| sq z121 (oAl rfl tF178 (tkI (tkI (tkI tk0)))) <| nl) ?_
  refine Unw.seq ?_
  refine Go.seq ?_
  refine Go.r0 c121 rfl rfl (sq z121 (oAl rfl tF178 (tkI (tkI (tkI tk0)))) <| nl) ?_
  refine Unw.seq ?_
  refine Go.seq ?_
  refine Go.r0 c121 rfl rfl (sq z121 (oFA (r' := .mp 1 0 0) rfl fF180_0 rfl rfl) <| sq z121 (oLd (cs := [.im 0 _]) rfl tF2 rfl rfl) <| sq z121 (oFA (r' := .mp 3 0 0) rfl fF178_0 rfl rfl) <| sq z121 (oSt tF2 rfl rfl rfl (tkI tk0) rfl rfl rfl) <| nl) ?_
  refine Unw.seq ?_
  refine Go.seq ?_
  refine Go.r1 c121 rfl rfl (st1 := mk [(1, .v false [.mp 1 0 0]), (2, .v false [.mp 2 0 0]), (3, .v false [.mp 3 0 0])] [(1, some ⟨0, 0, false, true, false, true, [⟨.imm, 0, 0, .sc (.int .i64 a_0.Kind)⟩, ⟨.imm, 0, 0, .sc (.int .i64 a_0.A)⟩, ⟨.imm, 0, 0, .sc (.int .i64 a_0.B)⟩]⟩), (2, some ⟨0, 0, false, true, false, true, [⟨.imm, 0, 0, .sc (.int .i64 0)⟩, ⟨.imm, 0, 0, .sc (.int .i64 0)⟩, ⟨.imm, 0, 0, .sc (.int .i64 0)⟩]⟩), (3, some ⟨0, 0, false, true, false, true, [⟨.imm, 0, 0, .sc (.int .i64 a_0.Kind)⟩, ⟨.imm, 0, 0, .sc (.int .i64 0)⟩, ⟨.imm, 0, 0, .sc (.int .i64 0)⟩]⟩)]) (by kernel_rfl) (sq z121 (oFA (r' := .mp 1 0 1) rfl fF180_1 rfl rfl) <| sq z121 (oLd (cs := [.im 0 _]) rfl tF2 rfl rfl) <| sq z121 (oFA (r' := .mp 3 0 1) rfl fF178_1 rfl rfl) <| sq z121 (oSt tF2 rfl rfl rfl (tkI tk0) rfl rfl rfl) <| nl) ?_
  refine Unw.seq ?_
  refine Go.seq ?_
  refine Go.r1 c121 rfl rfl (st1 := mk [(1, .v false [.mp 1 0 0]), (2, .v false [.mp 2 0 0]), (3, .v false [.mp 3 0 0])] [(1, some ⟨0, 0, false, true, false, true, [⟨.imm, 0, 0, .sc (.int .i64 a_0.Kind)⟩, ⟨.imm, 0, 0, .sc (.int .i64 a_0.A)⟩, ⟨.imm, 0, 0, .sc (.int .i64 a_0.B)⟩]⟩), (2, some ⟨0, 0, false, true, false, true, [⟨.imm, 0, 0, .sc (.int .i64 0)⟩, ⟨.imm, 0, 0, .sc (.int .i64 0)⟩, ⟨.imm, 0, 0, .sc (.int .i64 0)⟩]⟩), (3, some ⟨0, 0, false, true, false, true, [⟨.imm, 0, 0, .sc (.int .i64 a_0.Kind)⟩, ⟨.imm, 0, 0, .sc (.int .i64 a_0.A)⟩, ⟨.imm, 0, 0, .sc (.int .i64 0)⟩]⟩)]) (by kernel_rfl) (sq z121 (oFA (r' := .mp 1 0 2) rfl fF180_2 rfl rfl) <| sq z121 (oLd (cs := [.im 0 _]) rfl tF2 rfl rfl) <| sq z121 (oFA (r' := .mp 3 0 2) rfl fF178_2 rfl rfl) <| sq z121 (oSt tF2 rfl rfl rfl (tkI tk0) rfl rfl rfl) <| nl) ?_
  refine Unw.seq ?_
  refine Go.seq ?_
  refine Go.r1 c121 rfl rfl (st1 := mk [(2, .v false [.mp 2 0 0]), (3, .v false [.mp 3 0 0])] [(2, some ⟨0, 0, false, true, false, true, [⟨.imm, 0, 0, .sc (.int .i64 0)⟩, ⟨.imm, 0, 0, .sc (.int .i64 0)⟩, ⟨.imm, 0, 0, .sc (.int .i64 0)⟩]⟩), (3, some ⟨0, 0, false, true, false, true, [⟨.imm, 0, 0, .sc (.int .i64 a_0.Kind)⟩, ⟨.imm, 0, 0, .sc (.int .i64 a_0.A)⟩, ⟨.imm, 0, 0, .sc (.int .i64 a_0.B)⟩]⟩)]) (by kernel_rfl) (sq z121 (oLd (cs := [.im 0 _, .im 0 _, .im 0 _]) rfl tF178 rfl rfl) <| sq z121 (oSt tF178 rfl rfl rfl (tkI (tkI (tkI tk0))) rfl rfl rfl) <| nl) ?_
  refine Unw.seq ?_
  refine Go.ret (Unw.ret ?_)
  cases h
  exact Fin_ret (fin_of rfl rF121 rfl (by kernel_rfl))
theorem L_laws_toStepS {a_0 : (List S_Step)} {r : (List S_Step)} (h : laws_toStepS a_0 = some r) : FL Try.prog cfg 42 [.im 2 false [.row 3 (List.map e_S_Step a_0)]] = some ([(false, [.ow 0 3 (List.map e_S_Step r)])], []) := by
  unfold laws_toStepS at h
  refine FL_goS (A := [(0, .v false [.im 2 (.row 3 (List.map e_S_Step a_0))])]) (B := [(0, none)]) (nt := 23) rfl rfl Try.func42 rfl rfl rfl rfl ?_
  refine Go.seq ?_
  refine Go.r0 c42 rfl rfl (sq z42 (oAsN rfl rfl eF63) <| nl) ?_
  refine Unw.seq ?_
  refine Go.seq ?_
  obtain ⟨x7, hx7, h⟩ := bs h
  refine Go.r0 c42 rfl rfl (sq z42 (oMv rfl rfl) <| sq z42 (oLnI rfl rfl uF61 rfl) <| sq z42 (oMk (en := e_S_Step) rfl hx7 rfl sF63 rfl rfl (fxI (fxI (fxI fx0))) rfl (flat0 (L := [_]) rfl fun _ => rfl)) <| sq z42 (oAsO rfl rfl rfl rfl rfl) <| nl) ?_
  refine Unw.seq ?_
  refine Go.seq ?_
  refine Go.seq ?_
  refine Go.r0 c42 rfl rfl (sq z42 (oAsI rfl rfl) <| nl) ?_
  refine Unw.seq ?_
  refine Go.block ?_
  obtain ⟨o, hl, h⟩ := bs h
  refine Go.lp c42 rfl _ (fun (s : (Int × (List S_Step))) => match s with | (i_4_l3, out_o3_l3) => mk [(0, .v false [.im 2 (.row 3 (List.map e_S_Step a_0))]), (3, .v false [.own 3 0 0]), (4, iv i_4_l3)] [(3, some ⟨0, 0, false, false, false, false, [⟨.sh, 0, 0, .row 3 (List.map e_S_Step out_o3_l3)⟩]⟩)]) (fun (out_o3_e0_3 : (List S_Step)) (p : Ex × St) => p.1 = .exit 0 ∧ p.2.norm ([3], [3]) = mk [(3, .v false [.own 3 0 0])] [(3, some ⟨0, 0, false, false, false, false, [⟨.sh, 0, 0, .row 3 (List.map e_S_Step out_o3_e0_3)⟩]⟩)]) hl (by kernel_rfl) ?_ ?_ ?_
  · intro o p hp e
    exact nomatch (hp.1.symm.trans e)
  · rintro ⟨i_4_l3, out_o3_l3⟩ o h
    unfold laws_toStepS_l3 at h
    dsimp only at h
    refine Go.seq ?_
    refine Go.seq ?_
    refine Go.r0 c42 rfl rfl (sq z42 (oMv rfl rfl) <| sq z42 (oMv rfl rfl) <| sq z42 (oLnI rfl rfl uF61 rfl) <| sq z42 (oBi rfl rfl rfl rfl) <| nl) ?_
    refine Unw.seq ?_
    by_cases hc3 : i_4_l3 < (a_0.length : Int)
    · rw [if_pos hc3] at h
      refine Go.condT rfl (iDec.2 hc3) ?_
      refine Go.skip ?_
      refine Unw.seq ?_
      refine Go.seq ?_
      refine Go.block ?_
      obtain ⟨x18, hx18, h⟩ := bs h
      obtain ⟨x20, hx20, h⟩ := bs h
      obtain ⟨x21, hx21, h⟩ := bs h
      refine Go.r0 c42 rfl rfl (sq z42 (oMv rfl rfl) <| sq z42 (oMv rfl rfl) <| sq z42 (oMv rfl rfl) <| sq z42 (oMv rfl rfl) <| sq z42 (oIAI rfl hx18 sF61 rfl rfl) <| sq z42 (oLd (cs := [.im 2 _, .im 2 _, .im 2 _]) rfl tF180 rfl rfl) <| sq z42 (oCa (xs := [.v true [.im 2 _, .im 2 _, .im 2 _]]) (vs := [(true, [.im 0 _, .im 0 _, .im 0 _])]) (v := .v true [.im 0 _, .im 0 _, .im 0 _]) (L_laws_toStep hx20) (.inl rfl) rfl kF121_180 rfl (ppC rfl pp0) rfl rfl pb0 rfl rfl rfl) <| sq z42 (oIAO rfl hx21 sF63 rfl rfl rfl rfl) <| sq z42 (oStE (v' := x20) tF178 rfl rfl rfl (fxI (fxI (fxI fx0))) rfl rfl (rd_get hx21) rfl) <| nl) ?_
      refine Unw.blk ?_
      refine Unw.seq ?_
      refine Go.r1 c42 rfl rfl (st1 := mk [(0, .v false [.im 2 (.row 3 (List.map e_S_Step a_0))]), (3, .v false [.own 3 0 0]), (4, iv i_4_l3)] [(3, some ⟨0, 0, false, false, false, false, [⟨.sh, 0, 0, .row 3 (List.map e_S_Step (out_o3_l3.set i_4_l3.toNat x20))⟩]⟩)]) (by kernel_rfl) (sq z42 (oMv rfl rfl) <| sq z42 (oBi rfl rfl rfl rfl) <| sq z42 (oAsI rfl rfl) <| nl) ?_
      refine Unw.nil ?_
      cases h
      exact ⟨rfl, (by kernel_rfl)⟩
    · rw [if_neg hc3] at h
      refine Go.condF rfl (byF iDec hc3) ?_
      refine Go.exit ?_
      refine Unw.seqx ?_
      refine Unw.nil ?_
      cases h
      exact ⟨rfl, (by kernel_rfl)⟩
  · rintro ⟨e, st⟩ hp
    obtain ⟨out_o3_e0_3, rfl⟩ : ∃ y, y = o := ⟨o, rfl⟩
    obtain ⟨he, hst⟩ := hp
    obtain rfl : e = .exit 0 := he
    refine Unw.blkx ?_
    refine Unw.seq ?_
    refine Go.seq ?_
    refine Go.r1 c42 rfl rfl hst (sq z42 (oMv rfl rfl) <| sq z42 (oAsO rfl rfl rfl rfl rfl) <| nl) ?_
    refine Unw.seq ?_
    refine Go.ret (Unw.ret ?_)
    cases h
    exact Fin_ret (fin_of rfl rF42 rfl (by kernel_rfl))
theorem L_spec_l00In {n_0 : Int} {low_1 : Int} {high_2 : Int} {r : Bool} (h : spec_l00In n_0 low_1 high_2 = some r) : FL Try.prog cfg 102 [.im 2 false [.sc (.int .i64 n_0)], .im 2 false [.sc (.int .i64 low_1)], .im 2 false [.sc (.int .i64 high_2)]] = some ([(false, [.im 0 (.sc (.bool r))])], []) := by
  unfold spec_l00In at h
  refine FL_goS (A := [(0, .v false [.im 2 (.sc (.int .i64 n_0))]), (1, .v false [.im 2 (.sc (.int .i64 low_1))]), (2, .v false [.im 2 (.sc (.int .i64 high_2))])]) (B := [(0, none), (1, none), (2, none)]) (nt := 15) rfl rfl Try.func102 rfl rfl rfl rfl ?_
  refine Go.seq ?_
  refine Go.r0 c102 rfl rfl (sq z102 (oAsI rfl rfl) <| nl) ?_
  refine Unw.seq ?_
  refine Go.seq ?_
  refine Go.rX c102 rfl rfl rfl (mk [(6, bv ((decide (n_0 ≥ low_1)) && (decide (n_0 ≤ high_2))))] []) ?_ ?_
  · by_cases hc1 : n_0 ≥ low_1
    · exact ⟨_, sq z102 (oMv rfl rfl) <| sq z102 (oMv rfl rfl) <| sq z102 (oBi rfl rfl rfl rfl) <| sq z102 (oMv rfl rfl) <| sgT z102 rfl rfl (iDec.2 hc1) (oMv rfl rfl) <| sgT z102 rfl rfl (iDec.2 hc1) (oMv rfl rfl) <| sgT z102 rfl rfl (iDec.2 hc1) (oBi rfl rfl rfl rfl) <| sq z102 (oPkT rfl rfl (iDec.2 hc1) rfl) <| sq z102 (oAsI rfl rfl) <| nl, (Eq.trans (b := (fun t_6_m1 : Bool => mk [(6, bv t_6_m1)] []) (decide (n_0 ≤ high_2))) (by kernel_rfl) (congrArg (fun t_6_m1 : Bool => mk [(6, bv t_6_m1)] []) (by first | rfl | simp [(iDec.2 hc1)])))⟩
    · exact ⟨_, sq z102 (oMv rfl rfl) <| sq z102 (oMv rfl rfl) <| sq z102 (oBi rfl rfl rfl rfl) <| sq z102 (oMv rfl rfl) <| sgF rfl rfl (byF iDec hc1) rfl <| sgF rfl rfl (byF iDec hc1) rfl <| sgF rfl rfl (byF iDec hc1) rfl <| sq z102 (oPkF rfl rfl (byF iDec hc1) rfl) <| sq z102 (oAsI rfl rfl) <| nl, (Eq.trans (b := (fun t_6_m1 : Bool => mk [(6, bv t_6_m1)] []) false) (by kernel_rfl) (congrArg (fun t_6_m1 : Bool => mk [(6, bv t_6_m1)] []) (by first | rfl | simp [(byF iDec hc1)])))⟩
  · refine Unw.seq ?_
    refine Go.ret (Unw.ret ?_)
    cases h
    exact Fin_ret (fin_of rfl rF102 rfl (by kernel_rfl))
theorem L_spec_l21Heat {heat_0 : Int} {seconds_1 : Int} {r : Bool} (h : spec_l21Heat heat_0 seconds_1 = some r) : FL Try.prog cfg 254 [.im 2 false [.sc (.int .i64 heat_0)], .im 2 false [.sc (.int .i64 seconds_1)]] = some ([(false, [.im 0 (.sc (.bool r))])], []) := by
  unfold spec_l21Heat at h
  refine FL_goS (A := [(0, .v false [.im 2 (.sc (.int .i64 heat_0))]), (1, .v false [.im 2 (.sc (.int .i64 seconds_1))])]) (B := [(0, none), (1, none)]) (nt := 11) rfl rfl Try.func254 rfl rfl rfl rfl ?_
  refine Go.seq ?_
  refine Go.r0 c254 rfl rfl (sq z254 (oAsI rfl rfl) <| nl) ?_
  refine Unw.seq ?_
  refine Go.seq ?_
  obtain ⟨x6, hx6, h⟩ := bs h
  obtain ⟨t_4_m1, hm2, h⟩ := bs h
  refine Go.rX c254 rfl rfl rfl (mk [(4, bv t_4_m1)] []) ?_ ?_
  · by_cases hc1 : x6 = true
    · rw [if_pos hc1] at hm2
      obtain ⟨x9, hx9, hm2⟩ := bs hm2
      cases hm2
      exact ⟨_, sq z254 (oMv rfl rfl) <| sq z254 (oCa (xs := [.v false [.im 2 _], .v false [.im 0 _], .v false [.im 0 _]]) (vs := [(false, [.im 0 _])]) (v := .v false [.im 0 _]) (L_spec_l00In hx6) (.inl rfl) rfl kF102_2_2_2 rfl (ppC rfl (ppC rfl (ppC rfl pp0))) rfl rfl pb0 rfl rfl rfl) <| sq z254 (oMv rfl rfl) <| sgT z254 rfl rfl (Iff.rfl.2 hc1) (oMv rfl rfl) <| sgT z254 rfl rfl (Iff.rfl.2 hc1) (oCa (xs := [.v false [.im 2 _], .v false [.im 0 _], .v false [.im 0 _]]) (vs := [(false, [.im 0 _])]) (v := .v false [.im 0 _]) (L_spec_l00In hx9) (.inl rfl) rfl kF102_2_2_2 rfl (ppC rfl (ppC rfl (ppC rfl pp0))) rfl rfl pb0 rfl rfl rfl) <| sq z254 (oPkT rfl rfl (Iff.rfl.2 hc1) rfl) <| sq z254 (oAsI rfl rfl) <| nl, (by kernel_rfl)⟩
    · rw [if_neg hc1] at hm2
      cases hm2
      exact ⟨_, sq z254 (oMv rfl rfl) <| sq z254 (oCa (xs := [.v false [.im 2 _], .v false [.im 0 _], .v false [.im 0 _]]) (vs := [(false, [.im 0 _])]) (v := .v false [.im 0 _]) (L_spec_l00In hx6) (.inl rfl) rfl kF102_2_2_2 rfl (ppC rfl (ppC rfl (ppC rfl pp0))) rfl rfl pb0 rfl rfl rfl) <| sq z254 (oMv rfl rfl) <| sgF rfl rfl (byF Iff.rfl hc1) rfl <| sgF rfl rfl (byF Iff.rfl hc1) rfl <| sq z254 (oPkF rfl rfl (byF Iff.rfl hc1) rfl) <| sq z254 (oAsI rfl rfl) <| nl, (by kernel_rfl)⟩
  · refine Unw.seq ?_
    refine Go.ret (Unw.ret ?_)
    cases h
    exact Fin_ret (fin_of rfl rF254 rfl (by kernel_rfl))
theorem L_spec_l21Step {x_0 : S_Step} {r : Bool} (h : spec_l21Step x_0 = some r) : FL Try.prog cfg 200 [.im 2 false [.cp [.sc (.int .i64 x_0.Kind), .sc (.int .i64 x_0.A), .sc (.int .i64 x_0.B)] 0]] = some ([(false, [.im 0 (.sc (.bool r))])], []) := by
  unfold spec_l21Step at h
  refine FL_goS (A := [(0, .v false [.im 2 (.cp [.sc (.int .i64 x_0.Kind), .sc (.int .i64 x_0.A), .sc (.int .i64 x_0.B)] 0)])]) (B := [(0, none)]) (nt := 46) rfl rfl Try.func200 rfl rfl rfl rfl ?_
  refine Go.seq ?_
  refine Go.r0 c200 rfl rfl (sq z200 (oAsI rfl rfl) <| nl) ?_
  refine Unw.seq ?_
  refine Go.seq ?_
  refine Go.seq ?_
  refine Go.r0 c200 rfl rfl (sq z200 (oMv rfl rfl) <| sq z200 (oNl rfl rfl rfl) <| sq z200 (oFA (r' := .im 2 _) rfl fF178_0 rfl rfl) <| sq z200 (oLd (cs := [.im 2 _]) rfl tF2 rfl rfl) <| nl) ?_
  refine Unw.seq ?_
  refine Go.block ?_
  refine Go.seq ?_
  refine Go.r0 c200 rfl rfl (sq z200 (oBi rfl rfl rfl rfl) <| sq z200 (oAsI rfl rfl) <| nl) ?_
  refine Unw.seq ?_
  by_cases hc1 : x_0.Kind = 1
  · rw [if_pos hc1] at h
    refine Go.condT rfl (iEq.2 hc1) ?_
    refine Go.seq ?_
    obtain ⟨x17, hx17, h⟩ := bs h
    refine Go.dr c200 rfl rfl rfl rfl (mk [(2, bv x17)] []) (sT rfl (dN z200 rfl (oMv rfl rfl)) <| sT rfl (dN z200 rfl (oNl rfl rfl rfl)) <| sT rfl (dN z200 rfl (oFA (r' := .im 2 _) rfl fF178_1 rfl rfl)) <| sT rfl (dN z200 rfl (oLd (cs := [.im 2 _]) rfl tF2 rfl rfl)) <| sT rfl (dN z200 rfl (oMv rfl rfl)) <| sT rfl (dN z200 rfl (oNl rfl rfl rfl)) <| sT rfl (dN z200 rfl (oFA (r' := .im 2 _) rfl fF178_2 rfl rfl)) <| sT rfl (dN z200 rfl (oLd (cs := [.im 2 _]) rfl tF2 rfl rfl)) <| sS (dN z200 rfl (oCa (xs := [.v false [.im 2 _], .v false [.im 2 _]]) (vs := [(false, [.im 0 _])]) (v := .v false [.im 0 _]) (L_spec_l21Heat hx17) (.inl rfl) rfl kF254_2_2 rfl (ppC rfl (ppC rfl pp0)) rfl rfl pb0 rfl rfl rfl)) trivial (sS (dN z200 rfl (oAsI rfl rfl)) trivial (sD (by kernel_rfl)))) ?_
    refine Unw.seq ?_
    refine Go.ret (Unw.ret ?_)
    cases h
    exact Fin_ret (fin_of rfl rF200 rfl (by kernel_rfl))
  · rw [if_neg hc1] at h
    refine Go.condF rfl (byF iEq hc1) ?_
    refine Go.seq ?_
    refine Go.r0 c200 rfl rfl (sq z200 (oBi rfl rfl rfl rfl) <| sq z200 (oAsI rfl rfl) <| nl) ?_
    refine Unw.seq ?_
    by_cases hc2 : x_0.Kind = 2
    · rw [if_pos hc2] at h
      refine Go.condT rfl (iEq.2 hc2) ?_
      refine Go.seq ?_
      obtain ⟨x24, hx24, h⟩ := bs h
      obtain ⟨t_2_m5, hm4, h⟩ := bs h
      refine Go.rX c200 rfl rfl rfl (mk [(2, bv t_2_m5)] []) ?_ ?_
      · by_cases hc3 : x24 = true
        · rw [if_pos hc3] at hm4
          obtain ⟨x30, hx30, hm4⟩ := bs hm4
          cases hm4
          exact ⟨_, sq z200 (oMv rfl rfl) <| sq z200 (oNl rfl rfl rfl) <| sq z200 (oFA (r' := .im 2 _) rfl fF178_1 rfl rfl) <| sq z200 (oLd (cs := [.im 2 _]) rfl tF2 rfl rfl) <| sq z200 (oCa (xs := [.v false [.im 2 _], .v false [.im 0 _], .v false [.im 0 _]]) (vs := [(false, [.im 0 _])]) (v := .v false [.im 0 _]) (L_spec_l00In hx24) (.inl rfl) rfl kF102_2_2_2 rfl (ppC rfl (ppC rfl (ppC rfl pp0))) rfl rfl pb0 rfl rfl rfl) <| sq z200 (oMv rfl rfl) <| sgT z200 rfl rfl (Iff.rfl.2 hc3) (oMv rfl rfl) <| sgT z200 rfl rfl (Iff.rfl.2 hc3) (oNl rfl rfl rfl) <| sgT z200 rfl rfl (Iff.rfl.2 hc3) (oFA (r' := .im 2 _) rfl fF178_2 rfl rfl) <| sgT z200 rfl rfl (Iff.rfl.2 hc3) (oLd (cs := [.im 2 _]) rfl tF2 rfl rfl) <| sgT z200 rfl rfl (Iff.rfl.2 hc3) (oCa (xs := [.v false [.im 2 _], .v false [.im 0 _], .v false [.im 0 _]]) (vs := [(false, [.im 0 _])]) (v := .v false [.im 0 _]) (L_spec_l00In hx30) (.inl rfl) rfl kF102_2_2_2 rfl (ppC rfl (ppC rfl (ppC rfl pp0))) rfl rfl pb0 rfl rfl rfl) <| sq z200 (oPkT rfl rfl (Iff.rfl.2 hc3) rfl) <| sq z200 (oAsI rfl rfl) <| nl, (by kernel_rfl)⟩
        · rw [if_neg hc3] at hm4
          cases hm4
          exact ⟨_, sq z200 (oMv rfl rfl) <| sq z200 (oNl rfl rfl rfl) <| sq z200 (oFA (r' := .im 2 _) rfl fF178_1 rfl rfl) <| sq z200 (oLd (cs := [.im 2 _]) rfl tF2 rfl rfl) <| sq z200 (oCa (xs := [.v false [.im 2 _], .v false [.im 0 _], .v false [.im 0 _]]) (vs := [(false, [.im 0 _])]) (v := .v false [.im 0 _]) (L_spec_l00In hx24) (.inl rfl) rfl kF102_2_2_2 rfl (ppC rfl (ppC rfl (ppC rfl pp0))) rfl rfl pb0 rfl rfl rfl) <| sq z200 (oMv rfl rfl) <| sgF rfl rfl (byF Iff.rfl hc3) rfl <| sgF rfl rfl (byF Iff.rfl hc3) rfl <| sgF rfl rfl (byF Iff.rfl hc3) rfl <| sgF rfl rfl (byF Iff.rfl hc3) rfl <| sgF rfl rfl (byF Iff.rfl hc3) rfl <| sq z200 (oPkF rfl rfl (byF Iff.rfl hc3) rfl) <| sq z200 (oAsI rfl rfl) <| nl, (by kernel_rfl)⟩
      · refine Unw.seq ?_
        refine Go.ret (Unw.ret ?_)
        cases h
        exact Fin_ret (fin_of rfl rF200 rfl (by kernel_rfl))
    · rw [if_neg hc2] at h
      refine Go.condF rfl (byF iEq hc2) ?_
      refine Go.seq ?_
      refine Go.r0 c200 rfl rfl (sq z200 (oBi rfl rfl rfl rfl) <| sq z200 (oAsI rfl rfl) <| nl) ?_
      refine Unw.seq ?_
      by_cases hc5 : x_0.Kind = 3
      · rw [if_pos hc5] at h
        refine Go.condT rfl (iEq.2 hc5) ?_
        refine Go.seq ?_
        obtain ⟨x38, hx38, h⟩ := bs h
        refine Go.rX c200 rfl rfl rfl (mk [(2, bv (x38 && (x_0.B == 0)))] []) ?_ ?_
        · by_cases hc6 : x38 = true
          · exact ⟨_, sq z200 (oMv rfl rfl) <| sq z200 (oNl rfl rfl rfl) <| sq z200 (oFA (r' := .im 2 _) rfl fF178_1 rfl rfl) <| sq z200 (oLd (cs := [.im 2 _]) rfl tF2 rfl rfl) <| sq z200 (oCa (xs := [.v false [.im 2 _], .v false [.im 0 _], .v false [.im 0 _]]) (vs := [(false, [.im 0 _])]) (v := .v false [.im 0 _]) (L_spec_l00In hx38) (.inl rfl) rfl kF102_2_2_2 rfl (ppC rfl (ppC rfl (ppC rfl pp0))) rfl rfl pb0 rfl rfl rfl) <| sq z200 (oMv rfl rfl) <| sgT z200 rfl rfl (Iff.rfl.2 hc6) (oMv rfl rfl) <| sgT z200 rfl rfl (Iff.rfl.2 hc6) (oNl rfl rfl rfl) <| sgT z200 rfl rfl (Iff.rfl.2 hc6) (oFA (r' := .im 2 _) rfl fF178_2 rfl rfl) <| sgT z200 rfl rfl (Iff.rfl.2 hc6) (oLd (cs := [.im 2 _]) rfl tF2 rfl rfl) <| sgT z200 rfl rfl (Iff.rfl.2 hc6) (oBi rfl rfl rfl rfl) <| sq z200 (oPkT rfl rfl (Iff.rfl.2 hc6) rfl) <| sq z200 (oAsI rfl rfl) <| nl, (Eq.trans (b := (fun t_2_m7 : Bool => mk [(2, bv t_2_m7)] []) (x_0.B == 0)) (by kernel_rfl) (congrArg (fun t_2_m7 : Bool => mk [(2, bv t_2_m7)] []) (by first | rfl | simp [(Iff.rfl.2 hc6)])))⟩
          · exact ⟨_, sq z200 (oMv rfl rfl) <| sq z200 (oNl rfl rfl rfl) <| sq z200 (oFA (r' := .im 2 _) rfl fF178_1 rfl rfl) <| sq z200 (oLd (cs := [.im 2 _]) rfl tF2 rfl rfl) <| sq z200 (oCa (xs := [.v false [.im 2 _], .v false [.im 0 _], .v false [.im 0 _]]) (vs := [(false, [.im 0 _])]) (v := .v false [.im 0 _]) (L_spec_l00In hx38) (.inl rfl) rfl kF102_2_2_2 rfl (ppC rfl (ppC rfl (ppC rfl pp0))) rfl rfl pb0 rfl rfl rfl) <| sq z200 (oMv rfl rfl) <| sgF rfl rfl (byF Iff.rfl hc6) rfl <| sgF rfl rfl (byF Iff.rfl hc6) rfl <| sgF rfl rfl (byF Iff.rfl hc6) rfl <| sgF rfl rfl (byF Iff.rfl hc6) rfl <| sgF rfl rfl (byF Iff.rfl hc6) rfl <| sq z200 (oPkF rfl rfl (byF Iff.rfl hc6) rfl) <| sq z200 (oAsI rfl rfl) <| nl, (Eq.trans (b := (fun t_2_m7 : Bool => mk [(2, bv t_2_m7)] []) false) (by kernel_rfl) (congrArg (fun t_2_m7 : Bool => mk [(2, bv t_2_m7)] []) (by first | rfl | simp [(byF Iff.rfl hc6)])))⟩
        · refine Unw.seq ?_
          refine Go.ret (Unw.ret ?_)
          cases h
          exact Fin_ret (fin_of rfl rF200 rfl (by kernel_rfl))
      · rw [if_neg hc5] at h
        refine Go.condF rfl (byF iEq hc5) ?_
        refine Go.skip ?_
        refine Unw.blk ?_
        refine Unw.seq ?_
        refine Go.seq ?_
        refine Go.r0 c200 rfl rfl (sq z200 (oAsI rfl rfl) <| nl) ?_
        refine Unw.seq ?_
        refine Go.ret (Unw.ret ?_)
        cases h
        exact Fin_ret (fin_of rfl rF200 rfl (by kernel_rfl))
theorem L_spec_l21Steps {list_0 : (List S_Step)} {r : Bool} (h : spec_l21Steps list_0 = some r) : FL Try.prog cfg 117 [.im 2 false [.row 3 (List.map e_S_Step list_0)]] = some ([(false, [.im 0 (.sc (.bool r))])], []) := by
  unfold spec_l21Steps at h
  refine FL_goS (A := [(0, .v false [.im 2 (.row 3 (List.map e_S_Step list_0))])]) (B := [(0, none)]) (nt := 18) rfl rfl Try.func117 rfl rfl rfl rfl ?_
  refine Go.seq ?_
  refine Go.r0 c117 rfl rfl (sq z117 (oAsI rfl rfl) <| nl) ?_
  refine Unw.seq ?_
  refine Go.seq ?_
  refine Go.seq ?_
  refine Go.r0 c117 rfl rfl (sq z117 (oAsI rfl rfl) <| nl) ?_
  refine Unw.seq ?_
  refine Go.block ?_
  obtain ⟨o, hl, h⟩ := bs h
  refine Go.lp c117 rfl _ (fun (i_3_l2 : Int) => mk [(0, .v false [.im 2 (.row 3 (List.map e_S_Step list_0))]), (3, iv i_3_l2)] []) (fun (o : (Unit ⊕ Bool)) (p : Ex × St) => match o with | (.inl _) => p.1 = .exit 0 ∧ p.2.norm ([0], []) = mk [(0, .v false [.im 2 (.row 3 (List.map e_S_Step list_0))])] [] | (.inr r2) => p.1 = .ret ∧ fin Try.prog cfg 117 Try.f117 [.im 2 false [.row 3 (List.map e_S_Step list_0)]] p.2 = some ([(false, [.im 0 (.sc (.bool r2))])], [])) hl (by kernel_rfl) ?_ ?_ ?_
  · intro o p hp e
    rcases o with u | r2 <;> exact nomatch (hp.1.symm.trans e)
  · rintro i_3_l2 o h
    unfold spec_l21Steps_l2 at h
    refine Go.seq ?_
    refine Go.seq ?_
    refine Go.r0 c117 rfl rfl (sq z117 (oMv rfl rfl) <| sq z117 (oMv rfl rfl) <| sq z117 (oLnI rfl rfl uF63 rfl) <| sq z117 (oBi rfl rfl rfl rfl) <| nl) ?_
    refine Unw.seq ?_
    by_cases hc5 : i_3_l2 < (list_0.length : Int)
    · rw [if_pos hc5] at h
      refine Go.condT rfl (iDec.2 hc5) ?_
      refine Go.skip ?_
      refine Unw.seq ?_
      refine Go.seq ?_
      refine Go.block ?_
      refine Go.seq ?_
      obtain ⟨x12, hx12, h⟩ := bs h
      obtain ⟨x13, hx13, h⟩ := bs h
      refine Go.r0 c117 rfl rfl (sq z117 (oMv rfl rfl) <| sq z117 (oMv rfl rfl) <| sq z117 (oIAI rfl hx12 sF63 rfl rfl) <| sq z117 (oCa (xs := [.v false [.im 2 _]]) (vs := [(false, [.im 0 _])]) (v := .v false [.im 0 _]) (L_spec_l21Step hx13) (.inl rfl) rfl kF200_295 rfl (ppC rfl pp0) rfl rfl pb0 rfl rfl rfl) <| sq z117 (oUn rfl rfl rfl) <| nl) ?_
      refine Unw.seq ?_
      by_cases hc6 : x13 = true
      · rw [if_pos hc6] at h
        refine Go.condF rfl (nF (Iff.rfl.2 hc6)) ?_
        refine Go.skip ?_
        refine Unw.blk ?_
        refine Unw.seq ?_
        refine Go.r0 c117 rfl rfl (sq z117 (oMv rfl rfl) <| sq z117 (oBi rfl rfl rfl rfl) <| sq z117 (oAsI rfl rfl) <| nl) ?_
        refine Unw.nil ?_
        cases h
        exact ⟨rfl, (by kernel_rfl)⟩
      · rw [if_neg hc6] at h
        refine Go.condT rfl (nT (byF Iff.rfl hc6)) ?_
        refine Go.seq ?_
        refine Go.r0 c117 rfl rfl (sq z117 (oAsI rfl rfl) <| nl) ?_
        refine Unw.seq ?_
        refine Go.ret (Unw.ret ?_)
        cases h
        exact ⟨rfl, (fin_of rfl rF117 rfl (by kernel_rfl))⟩
    · rw [if_neg hc5] at h
      refine Go.condF rfl (byF iDec hc5) ?_
      refine Go.exit ?_
      refine Unw.seqx ?_
      refine Unw.nil ?_
      cases h
      exact ⟨rfl, (by kernel_rfl)⟩
  · rintro ⟨e, st⟩ hp
    rcases o with u | r2
    · dsimp only at h
      obtain ⟨he, hst⟩ := hp
      obtain rfl : e = .exit 0 := he
      refine Unw.blkx ?_
      refine Unw.seq ?_
      refine Go.seq ?_
      refine Go.r1 c117 rfl rfl hst (sq z117 (oMv rfl rfl) <| sq z117 (oLnI rfl rfl uF63 rfl) <| sq z117 (oBi rfl rfl rfl rfl) <| sq z117 (oAsI rfl rfl) <| nl) ?_
      refine Unw.seq ?_
      refine Go.ret (Unw.ret ?_)
      cases h
      exact Fin_ret (fin_of rfl rF117 rfl (by kernel_rfl))
    · dsimp only at h
      obtain ⟨he, hfin⟩ := hp
      obtain rfl : e = .ret := he
      cases h
      exact Unw.ret (Fin_ret hfin)
theorem L_spec_l07Names  {r : (List ByteArray)} (h : spec_l07Names  = some r) : FL Try.prog cfg 201 [] = some ([(false, [.ow 0 1 (List.map eS r)])], []) := by
  unfold spec_l07Names at h
  refine FL_goS (A := []) (B := []) (nt := 2) rfl rfl Try.func201 rfl rfl rfl rfl ?_
  refine Go.seq ?_
  refine Go.r0 c201 rfl rfl (sq z201 (oAsN rfl rfl eF296) <| nl) ?_
  refine Unw.seq ?_
  refine Go.seq ?_
  refine Go.r0 c201 rfl rfl (sq z201 (oBS (es := List.map eS ([(⟨#[97, 115, 104]⟩ : ByteArray), (⟨#[98, 101, 101, 99, 104]⟩ : ByteArray), (⟨#[98, 105, 114, 99, 104]⟩ : ByteArray), (⟨#[99, 104, 101, 114, 114, 121]⟩ : ByteArray), (⟨#[101, 98, 111, 110, 121]⟩ : ByteArray), (⟨#[104, 111, 108, 108, 121]⟩ : ByteArray), (⟨#[109, 97, 112, 108, 101]⟩ : ByteArray), (⟨#[111, 97, 107]⟩ : ByteArray), (⟨#[114, 111, 115, 101, 119, 111, 111, 100]⟩ : ByteArray), (⟨#[119, 97, 108, 110, 117, 116]⟩ : ByteArray)] : List ByteArray)) rfl sF296 rfl (ptC rfl (fxI fx0) rfl (ptC rfl (fxI fx0) rfl (ptC rfl (fxI fx0) rfl (ptC rfl (fxI fx0) rfl (ptC rfl (fxI fx0) rfl (ptC rfl (fxI fx0) rfl (ptC rfl (fxI fx0) rfl (ptC rfl (fxI fx0) rfl (ptC rfl (fxI fx0) rfl (ptC rfl (fxI fx0) rfl pt0)))))))))) (flat0 rfl fun _ => rfl)) <| sq z201 (oAsO rfl rfl rfl rfl rfl) <| nl) ?_
  refine Unw.seq ?_
  refine Go.ret (Unw.ret ?_)
  cases h
  exact Fin_ret (fin_of rfl rF201 rfl (by kernel_rfl))
theorem L_spec_l07Find {name_0 : ByteArray} {r : Int} (h : spec_l07Find name_0 = some r) : FL Try.prog cfg 118 [.im 2 false [.sc (.string name_0)]] = some ([(false, [.im 0 (.sc (.int .i64 r))])], []) := by
  unfold spec_l07Find at h
  refine FL_goS (A := [(0, .v false [.im 2 (.sc (.string name_0))])]) (B := [(0, none)]) (nt := 19) rfl rfl Try.func118 rfl rfl rfl rfl ?_
  refine Go.seq ?_
  refine Go.r0 c118 rfl rfl (sq z118 (oAsI rfl rfl) <| nl) ?_
  refine Unw.seq ?_
  refine Go.seq ?_
  obtain ⟨x5, hx5, h⟩ := bs h
  refine Go.r0 c118 rfl rfl (sq z118 (oCr (xs := []) (vs := [(false, [.own 5 0 0])]) (v := .v false [.own 5 0 0]) (c := ⟨.sh, 0, _⟩) (cs := []) (L_spec_l07Names hx5) (.inl rfl) rfl kF201_ rfl pp0 rfl rfl pb0 rfl rfl rfl) <| sq z118 (oAsO rfl rfl rfl rfl rfl) <| nl) ?_
  refine Unw.seq ?_
  refine Go.seq ?_
  refine Go.seq ?_
  refine Go.r0 c118 rfl rfl (sq z118 (oAsI rfl rfl) <| nl) ?_
  refine Unw.seq ?_
  refine Go.block ?_
  obtain ⟨o, hl, h⟩ := bs h
  refine Go.lp c118 rfl _ (fun (i_4_l3 : Int) => mk [(0, sv name_0), (3, .v false [.own 3 0 0]), (4, iv i_4_l3)] [(3, some ⟨0, 0, false, false, false, false, [⟨.sh, 0, 0, .row 1 (List.map eS x5)⟩]⟩)]) (fun (o : (Unit ⊕ Int)) (p : Ex × St) => match o with | (.inl _) => p.1 = .exit 0 ∧ p.2.norm ([], []) = mk [] [] | (.inr r2) => p.1 = .ret ∧ fin Try.prog cfg 118 Try.f118 [.im 2 false [.sc (.string name_0)]] p.2 = some ([(false, [.im 0 (.sc (.int .i64 r2))])], [])) hl (by kernel_rfl) ?_ ?_ ?_
  · intro o p hp e
    rcases o with u | r2 <;> exact nomatch (hp.1.symm.trans e)
  · rintro i_4_l3 o h
    unfold spec_l07Find_l3 at h
    refine Go.seq ?_
    refine Go.seq ?_
    refine Go.r0 c118 rfl rfl (sq z118 (oMv rfl rfl) <| sq z118 (oMv rfl rfl) <| sq z118 (oLnO rfl rfl uF296 rfl rfl rfl (fun e => nomatch e)) <| sq z118 (oBi rfl rfl rfl rfl) <| nl) ?_
    refine Unw.seq ?_
    by_cases hc5 : i_4_l3 < (x5.length : Int)
    · rw [if_pos hc5] at h
      refine Go.condT rfl (iDec.2 hc5) ?_
      refine Go.skip ?_
      refine Unw.seq ?_
      refine Go.seq ?_
      refine Go.block ?_
      refine Go.seq ?_
      obtain ⟨x14, hx14, h⟩ := bs h
      refine Go.r0 c118 rfl rfl (sq z118 (oMv rfl rfl) <| sq z118 (oMv rfl rfl) <| sq z118 (oIAO rfl hx14 sF296 rfl rfl rfl rfl) <| sq z118 (oLdE (cs := [.im 0 _]) rfl tF9 rfl rfl rfl (fun e => nomatch e) (rd_get hx14) rfl rfl) <| sq z118 (oMv rfl rfl) <| sq z118 (oBi rfl rfl rfl rfl) <| nl) ?_
      refine Unw.seq ?_
      by_cases hc6 : x14 = name_0
      · rw [if_pos hc6] at h
        refine Go.condT rfl (iStr.2 hc6) ?_
        refine Go.seq ?_
        refine Go.r0 c118 rfl rfl (sq z118 (oMv rfl rfl) <| sq z118 (oAsI rfl rfl) <| nl) ?_
        refine Unw.seq ?_
        refine Go.ret (Unw.ret ?_)
        cases h
        exact ⟨rfl, (fin_of rfl rF118 rfl (by kernel_rfl))⟩
      · rw [if_neg hc6] at h
        refine Go.condF rfl (byF iStr hc6) ?_
        refine Go.skip ?_
        refine Unw.blk ?_
        refine Unw.seq ?_
        refine Go.r0 c118 rfl rfl (sq z118 (oMv rfl rfl) <| sq z118 (oBi rfl rfl rfl rfl) <| sq z118 (oAsI rfl rfl) <| nl) ?_
        refine Unw.nil ?_
        cases h
        exact ⟨rfl, (by kernel_rfl)⟩
    · rw [if_neg hc5] at h
      refine Go.condF rfl (byF iDec hc5) ?_
      refine Go.exit ?_
      refine Unw.seqx ?_
      refine Unw.nil ?_
      cases h
      exact ⟨rfl, (by kernel_rfl)⟩
  · rintro ⟨e, st⟩ hp
    rcases o with u | r2
    · dsimp only at h
      obtain ⟨he, hst⟩ := hp
      obtain rfl : e = .exit 0 := he
      refine Unw.blkx ?_
      refine Unw.seq ?_
      refine Go.seq ?_
      refine Go.r1 c118 rfl rfl hst (sq z118 (oAsI rfl rfl) <| nl) ?_
      refine Unw.seq ?_
      refine Go.ret (Unw.ret ?_)
      cases h
      exact Fin_ret (fin_of rfl rF118 rfl (by kernel_rfl))
    · dsimp only at h
      obtain ⟨he, hfin⟩ := hp
      obtain rfl : e = .ret := he
      cases h
      exact Unw.ret (Fin_ret hfin)
theorem L_spec_l07Table  {r : (List (List Int))} (h : spec_l07Table  = some r) : FL Try.prog cfg 202 [] = some ([(false, [.ow 0 1 (List.map (eL 1 eI) r)])], []) := by
  unfold spec_l07Table at h
  refine FL_goS (A := []) (B := []) (nt := 12) rfl rfl Try.func202 rfl rfl rfl rfl ?_
  refine Go.seq ?_
  refine Go.r0 c202 rfl rfl (sq z202 (oAsN rfl rfl eF298) <| nl) ?_
  refine Unw.seq ?_
  refine Go.seq ?_
  refine Go.r0 c202 rfl rfl (sq z202 (oBS (es := List.map eI ([20, 40, 310] : List Int)) rfl sF27 rfl (ptC rfl (fxI fx0) rfl (ptC rfl (fxI fx0) rfl (ptC rfl (fxI fx0) rfl pt0))) (flat0 rfl fun _ => rfl)) <| sq z202 (oBS (es := List.map eI ([35, 45, 410] : List Int)) rfl sF27 rfl (ptC rfl (fxI fx0) rfl (ptC rfl (fxI fx0) rfl (ptC rfl (fxI fx0) rfl pt0))) (flat0 rfl fun _ => rfl)) <| sq z202 (oBS (es := List.map eI ([15, 33, 280] : List Int)) rfl sF27 rfl (ptC rfl (fxI fx0) rfl (ptC rfl (fxI fx0) rfl (ptC rfl (fxI fx0) rfl pt0))) (flat0 rfl fun _ => rfl)) <| sq z202 (oBS (es := List.map eI ([50, 36, 240] : List Int)) rfl sF27 rfl (ptC rfl (fxI fx0) rfl (ptC rfl (fxI fx0) rfl (ptC rfl (fxI fx0) rfl pt0))) (flat0 rfl fun _ => rfl)) <| sq z202 (oBS (es := List.map eI ([95, 85, 270] : List Int)) rfl sF27 rfl (ptC rfl (fxI fx0) rfl (ptC rfl (fxI fx0) rfl (ptC rfl (fxI fx0) rfl pt0))) (flat0 rfl fun _ => rfl)) <| sq z202 (oBS (es := List.map eI ([5, 35, 370] : List Int)) rfl sF27 rfl (ptC rfl (fxI fx0) rfl (ptC rfl (fxI fx0) rfl (ptC rfl (fxI fx0) rfl pt0))) (flat0 rfl fun _ => rfl)) <| sq z202 (oBS (es := List.map eI ([10, 42, 290] : List Int)) rfl sF27 rfl (ptC rfl (fxI fx0) rfl (ptC rfl (fxI fx0) rfl (ptC rfl (fxI fx0) rfl pt0))) (flat0 rfl fun _ => rfl)) <| sq z202 (oBS (es := List.map eI ([40, 40, 330] : List Int)) rfl sF27 rfl (ptC rfl (fxI fx0) rfl (ptC rfl (fxI fx0) rfl (ptC rfl (fxI fx0) rfl pt0))) (flat0 rfl fun _ => rfl)) <| sq z202 (oBS (es := List.map eI ([80, 60, 220] : List Int)) rfl sF27 rfl (ptC rfl (fxI fx0) rfl (ptC rfl (fxI fx0) rfl (ptC rfl (fxI fx0) rfl pt0))) (flat0 rfl fun _ => rfl)) <| sq z202 (oBS (es := List.map eI ([70, 38, 260] : List Int)) rfl sF27 rfl (ptC rfl (fxI fx0) rfl (ptC rfl (fxI fx0) rfl (ptC rfl (fxI fx0) rfl pt0))) (flat0 rfl fun _ => rfl)) <| sq z202 (oBS (es := List.map (eL 1 eI) ([([20, 40, 310] : List Int), ([35, 45, 410] : List Int), ([15, 33, 280] : List Int), ([50, 36, 240] : List Int), ([95, 85, 270] : List Int), ([5, 35, 370] : List Int), ([10, 42, 290] : List Int), ([40, 40, 330] : List Int), ([80, 60, 220] : List Int), ([70, 38, 260] : List Int)] : List (List Int))) rfl sF298 rfl (ptC rfl (fxO rfl rfl fx0) rfl (ptC rfl (fxO rfl rfl fx0) rfl (ptC rfl (fxO rfl rfl fx0) rfl (ptC rfl (fxO rfl rfl fx0) rfl (ptC rfl (fxO rfl rfl fx0) rfl (ptC rfl (fxO rfl rfl fx0) rfl (ptC rfl (fxO rfl rfl fx0) rfl (ptC rfl (fxO rfl rfl fx0) rfl (ptC rfl (fxO rfl rfl fx0) rfl (ptC rfl (fxO rfl rfl fx0) rfl pt0)))))))))) (flat1 rfl)) <| sq z202 (oAsO rfl rfl rfl rfl rfl) <| nl) ?_
  refine Unw.seq ?_
  refine Go.ret (Unw.ret ?_)
  cases h
  exact Fin_ret (fin_of rfl rF202 rfl (by kernel_rfl))
theorem L_spec_l21Hardness {species_0 : ByteArray} {r : Int} (h : spec_l21Hardness species_0 = some r) : FL Try.prog cfg 119 [.im 2 false [.sc (.string species_0)]] = some ([(false, [.im 0 (.sc (.int .i64 r))])], []) := by
  unfold spec_l21Hardness at h
  refine FL_goS (A := [(0, .v false [.im 2 (.sc (.string species_0))])]) (B := [(0, none)]) (nt := 10) rfl rfl Try.func119 rfl rfl rfl rfl ?_
  refine Go.seq ?_
  refine Go.r0 c119 rfl rfl (sq z119 (oAsI rfl rfl) <| nl) ?_
  refine Unw.seq ?_
  refine Go.seq ?_
  obtain ⟨x3, hx3, h⟩ := bs h
  obtain ⟨x5, hx5, h⟩ := bs h
  obtain ⟨x6, hx6, h⟩ := bs h
  obtain ⟨x8, hx8, h⟩ := bs h
  refine Go.r0 c119 rfl rfl (sq z119 (oCr (xs := []) (vs := [(false, [.own 3 0 0])]) (v := .v false [.own 3 0 0]) (c := ⟨.sh, 0, _⟩) (cs := []) (L_spec_l07Table hx3) (.inl rfl) rfl kF202_ rfl pp0 rfl rfl pb0 rfl rfl rfl) <| sq z119 (oMv rfl rfl) <| sq z119 (oCa (xs := [.v false [.im 2 _]]) (vs := [(false, [.im 0 _])]) (v := .v false [.im 0 _]) (L_spec_l07Find hx5) (.inl rfl) rfl kF118_9 rfl (ppC rfl pp0) rfl rfl pb0 rfl rfl rfl) <| sq z119 (oIAO rfl hx6 sF298 rfl rfl rfl rfl) <| sq z119 (oLdE (cs := [.im 0 _]) rfl tF27 rfl rfl rfl (fun e => nomatch e) (rd_get hx6) rfl rfl) <| sq z119 (oIAI rfl hx8 sF27 rfl rfl) <| sq z119 (oLd (cs := [.im 0 _]) rfl tF2 rfl rfl) <| sq z119 (oAsI rfl rfl) <| nl) ?_
  refine Unw.seq ?_
  refine Go.ret (Unw.ret ?_)
  cases h
  exact Fin_ret (fin_of rfl rF119 rfl (by kernel_rfl))
theorem L_spec_l21Gain {hardness_0 : Int} {heat_1 : Int} {seconds_2 : Int} {r : Int} (h : spec_l21Gain hardness_0 heat_1 seconds_2 = some r) : FL Try.prog cfg 256 [.im 2 false [.sc (.int .i64 hardness_0)], .im 2 false [.sc (.int .i64 heat_1)], .im 2 false [.sc (.int .i64 seconds_2)]] = some ([(false, [.im 0 (.sc (.int .i64 r))])], []) := by
  unfold spec_l21Gain at h
  refine FL_goS (A := [(0, .v false [.im 2 (.sc (.int .i64 hardness_0))]), (1, .v false [.im 2 (.sc (.int .i64 heat_1))]), (2, .v false [.im 2 (.sc (.int .i64 seconds_2))])]) (B := [(0, none), (1, none), (2, none)]) (nt := 14) rfl rfl Try.func256 rfl rfl rfl rfl ?_
  refine Go.seq ?_
  refine Go.r0 c256 rfl rfl (sq z256 (oAsI rfl rfl) <| nl) ?_
  refine Unw.seq ?_
  refine Go.seq ?_
  obtain ⟨x13, hx13, h⟩ := bs h
  refine Go.r0 c256 rfl rfl (sq z256 (oMv rfl rfl) <| sq z256 (oBi rfl rfl rfl rfl) <| sq z256 (oMv rfl rfl) <| sq z256 (oBi rfl rfl rfl rfl) <| sq z256 (oMv rfl rfl) <| sq z256 (oBi rfl rfl rfl rfl) <| sq z256 (oQuo rfl hx13 rfl rfl) <| sq z256 (oAsI rfl rfl) <| nl) ?_
  refine Unw.seq ?_
  refine Go.ret (Unw.ret ?_)
  cases h
  exact Fin_ret (fin_of rfl rF256 rfl (by kernel_rfl))
theorem L_spec_l00Min {a_0 : Int} {b_1 : Int} {r : Int} (h : spec_l00Min a_0 b_1 = some r) : FL Try.prog cfg 255 [.im 2 false [.sc (.int .i64 a_0)], .im 2 false [.sc (.int .i64 b_1)]] = some ([(false, [.im 0 (.sc (.int .i64 r))])], []) := by
  unfold spec_l00Min at h
  refine FL_goS (A := [(0, .v false [.im 2 (.sc (.int .i64 a_0))]), (1, .v false [.im 2 (.sc (.int .i64 b_1))])]) (B := [(0, none), (1, none)]) (nt := 10) rfl rfl Try.func255 rfl rfl rfl rfl ?_
  refine Go.seq ?_
  refine Go.r0 c255 rfl rfl (sq z255 (oAsI rfl rfl) <| nl) ?_
  refine Unw.seq ?_
  refine Go.seq ?_
  refine Go.seq ?_
  refine Go.r0 c255 rfl rfl (sq z255 (oMv rfl rfl) <| sq z255 (oMv rfl rfl) <| sq z255 (oBi rfl rfl rfl rfl) <| nl) ?_
  refine Unw.seq ?_
  by_cases hc1 : a_0 < b_1
  · rw [if_pos hc1] at h
    refine Go.condT rfl (iDec.2 hc1) ?_
    refine Go.seq ?_
    refine Go.r0 c255 rfl rfl (sq z255 (oMv rfl rfl) <| sq z255 (oAsI rfl rfl) <| nl) ?_
    refine Unw.seq ?_
    refine Go.ret (Unw.ret ?_)
    cases h
    exact Fin_ret (fin_of rfl rF255 rfl (by kernel_rfl))
  · rw [if_neg hc1] at h
    refine Go.condF rfl (byF iDec hc1) ?_
    refine Go.skip ?_
    refine Unw.seq ?_
    refine Go.seq ?_
    refine Go.r0 c255 rfl rfl (sq z255 (oMv rfl rfl) <| sq z255 (oAsI rfl rfl) <| nl) ?_
    refine Unw.seq ?_
    refine Go.ret (Unw.ret ?_)
    cases h
    exact Fin_ret (fin_of rfl rF255 rfl (by kernel_rfl))
theorem L_spec_l01Div {a_0 : Int} {b_1 : Int} {r : Int} (h : spec_l01Div a_0 b_1 = some r) : FL Try.prog cfg 257 [.im 2 false [.sc (.int .i64 a_0)], .im 2 false [.sc (.int .i64 b_1)]] = some ([(false, [.im 0 (.sc (.int .i64 r))])], []) := by
  unfold spec_l01Div at h
  refine FL_goS (A := [(0, .v false [.im 2 (.sc (.int .i64 a_0))]), (1, .v false [.im 2 (.sc (.int .i64 b_1))])]) (B := [(0, none), (1, none)]) (nt := 28) rfl rfl Try.func257 rfl rfl rfl rfl ?_
  refine Go.seq ?_
  refine Go.r0 c257 rfl rfl (sq z257 (oAsI rfl rfl) <| nl) ?_
  refine Unw.seq ?_
  refine Go.seq ?_
  refine Go.seq ?_
  refine Go.r0 c257 rfl rfl (sq z257 (oMv rfl rfl) <| sq z257 (oBi rfl rfl rfl rfl) <| nl) ?_
  refine Unw.seq ?_
  refine Go.join (fun st => ∃ a_0_r4, ∃ b_1_r4, spec_l01Div_k4 a_0_r4 b_1_r4 = some r ∧ st.norm ([0, 1], []) = mk [(0, iv a_0_r4), (1, iv b_1_r4)] []) ?_ ?_
  · rintro st ⟨a_0_r4, b_1_r4, h, hst⟩
    unfold spec_l01Div_k4 at h
    refine Unw.seq ?_
    refine Go.seq ?_
    refine Go.seq ?_
    refine Go.r1 c257 rfl rfl hst (sq z257 (oMv rfl rfl) <| sq z257 (oBi rfl rfl rfl rfl) <| nl) ?_
    refine Unw.seq ?_
    by_cases hc2 : a_0_r4 < 0
    · rw [if_pos hc2] at h
      refine Go.condT rfl (iDec.2 hc2) ?_
      refine Go.seq ?_
      obtain ⟨x19, hx19, h⟩ := bs h
      refine Go.r0 c257 rfl rfl (sq z257 (oMv rfl rfl) <| sq z257 (oMv rfl rfl) <| sq z257 (oBi rfl rfl rfl rfl) <| sq z257 (oBi rfl rfl rfl rfl) <| sq z257 (oMv rfl rfl) <| sq z257 (oBi rfl rfl rfl rfl) <| sq z257 (oQuo rfl hx19 rfl rfl) <| sq z257 (oUn rfl rfl rfl) <| sq z257 (oAsI rfl rfl) <| nl) ?_
      refine Unw.seq ?_
      refine Go.ret (Unw.ret ?_)
      cases h
      exact Fin_ret (fin_of rfl rF257 rfl (by kernel_rfl))
    · rw [if_neg hc2] at h
      refine Go.condF rfl (byF iDec hc2) ?_
      refine Go.skip ?_
      refine Unw.seq ?_
      refine Go.seq ?_
      obtain ⟨x27, hx27, h⟩ := bs h
      refine Go.r0 c257 rfl rfl (sq z257 (oMv rfl rfl) <| sq z257 (oBi rfl rfl rfl rfl) <| sq z257 (oMv rfl rfl) <| sq z257 (oBi rfl rfl rfl rfl) <| sq z257 (oMv rfl rfl) <| sq z257 (oBi rfl rfl rfl rfl) <| sq z257 (oQuo rfl hx27 rfl rfl) <| sq z257 (oAsI rfl rfl) <| nl) ?_
      refine Unw.seq ?_
      refine Go.ret (Unw.ret ?_)
      cases h
      exact Fin_ret (fin_of rfl rF257 rfl (by kernel_rfl))
  · intro K3
    by_cases hc4 : b_1 < 0
    · rw [if_pos hc4] at h
      refine Go.condT rfl (iDec.2 hc4) ?_
      refine Go.seq ?_
      refine Go.r0 c257 rfl rfl (sq z257 (oMv rfl rfl) <| sq z257 (oUn rfl rfl rfl) <| sq z257 (oAsI rfl rfl) <| nl) ?_
      refine Unw.seq ?_
      refine Go.r0 c257 rfl rfl (sq z257 (oMv rfl rfl) <| sq z257 (oUn rfl rfl rfl) <| sq z257 (oAsI rfl rfl) <| nl) ?_
      exact K3 _ ⟨(w64 (0 - a_0)), (w64 (0 - b_1)), h, (by kernel_rfl)⟩
    · rw [if_neg hc4] at h
      refine Go.condF rfl (byF iDec hc4) ?_
      refine Go.skip ?_
      exact K3 _ ⟨a_0, b_1, h, (by kernel_rfl)⟩
theorem L_spec_l00Max {a_0 : Int} {b_1 : Int} {r : Int} (h : spec_l00Max a_0 b_1 = some r) : FL Try.prog cfg 258 [.im 2 false [.sc (.int .i64 a_0)], .im 2 false [.sc (.int .i64 b_1)]] = some ([(false, [.im 0 (.sc (.int .i64 r))])], []) := by
  unfold spec_l00Max at h
  refine FL_goS (A := [(0, .v false [.im 2 (.sc (.int .i64 a_0))]), (1, .v false [.im 2 (.sc (.int .i64 b_1))])]) (B := [(0, none), (1, none)]) (nt := 10) rfl rfl Try.func258 rfl rfl rfl rfl ?_
  refine Go.seq ?_
  refine Go.r0 c258 rfl rfl (sq z258 (oAsI rfl rfl) <| nl) ?_
  refine Unw.seq ?_
  refine Go.seq ?_
  refine Go.seq ?_
  refine Go.r0 c258 rfl rfl (sq z258 (oMv rfl rfl) <| sq z258 (oMv rfl rfl) <| sq z258 (oBi rfl rfl rfl rfl) <| nl) ?_
  refine Unw.seq ?_
  by_cases hc1 : a_0 > b_1
  · rw [if_pos hc1] at h
    refine Go.condT rfl (iDec.2 hc1) ?_
    refine Go.seq ?_
    refine Go.r0 c258 rfl rfl (sq z258 (oMv rfl rfl) <| sq z258 (oAsI rfl rfl) <| nl) ?_
    refine Unw.seq ?_
    refine Go.ret (Unw.ret ?_)
    cases h
    exact Fin_ret (fin_of rfl rF258 rfl (by kernel_rfl))
  · rw [if_neg hc1] at h
    refine Go.condF rfl (byF iDec hc1) ?_
    refine Go.skip ?_
    refine Unw.seq ?_
    refine Go.seq ?_
    refine Go.r0 c258 rfl rfl (sq z258 (oMv rfl rfl) <| sq z258 (oAsI rfl rfl) <| nl) ?_
    refine Unw.seq ?_
    refine Go.ret (Unw.ret ?_)
    cases h
    exact Fin_ret (fin_of rfl rF258 rfl (by kernel_rfl))
theorem L_spec_l21Shade {hardness_0 : Int} {shade_1 : Int} {x_2 : S_Step} {r : Int} (h : spec_l21Shade hardness_0 shade_1 x_2 = some r) : FL Try.prog cfg 203 [.im 2 false [.sc (.int .i64 hardness_0)], .im 2 false [.sc (.int .i64 shade_1)], .im 2 false [.cp [.sc (.int .i64 x_2.Kind), .sc (.int .i64 x_2.A), .sc (.int .i64 x_2.B)] 0]] = some ([(false, [.im 0 (.sc (.int .i64 r))])], []) := by
  unfold spec_l21Shade at h
  refine FL_goS (A := [(0, .v false [.im 2 (.sc (.int .i64 hardness_0))]), (1, .v false [.im 2 (.sc (.int .i64 shade_1))]), (2, .v false [.im 2 (.cp [.sc (.int .i64 x_2.Kind), .sc (.int .i64 x_2.A), .sc (.int .i64 x_2.B)] 0)])]) (B := [(0, none), (1, none), (2, none)]) (nt := 50) rfl rfl Try.func203 rfl rfl rfl rfl ?_
  refine Go.seq ?_
  refine Go.r0 c203 rfl rfl (sq z203 (oAsI rfl rfl) <| nl) ?_
  refine Unw.seq ?_
  refine Go.seq ?_
  refine Go.seq ?_
  refine Go.r0 c203 rfl rfl (sq z203 (oMv rfl rfl) <| sq z203 (oNl rfl rfl rfl) <| sq z203 (oFA (r' := .im 2 _) rfl fF178_0 rfl rfl) <| sq z203 (oLd (cs := [.im 2 _]) rfl tF2 rfl rfl) <| nl) ?_
  refine Unw.seq ?_
  refine Go.block ?_
  refine Go.seq ?_
  refine Go.r0 c203 rfl rfl (sq z203 (oBi rfl rfl rfl rfl) <| sq z203 (oAsI rfl rfl) <| nl) ?_
  refine Unw.seq ?_
  by_cases hc1 : x_2.Kind = 1
  · rw [if_pos hc1] at h
    refine Go.condT rfl (iEq.2 hc1) ?_
    refine Go.seq ?_
    obtain ⟨x23, hx23, h⟩ := bs h
    obtain ⟨x25, hx25, h⟩ := bs h
    refine Go.dr c203 rfl rfl rfl rfl (mk [(6, iv x25)] []) (sT rfl (dN z203 rfl (oMv rfl rfl)) <| sT rfl (dN z203 rfl (oMv rfl rfl)) <| sT rfl (dN z203 rfl (oMv rfl rfl)) <| sT rfl (dN z203 rfl (oNl rfl rfl rfl)) <| sT rfl (dN z203 rfl (oFA (r' := .im 2 _) rfl fF178_1 rfl rfl)) <| sT rfl (dN z203 rfl (oLd (cs := [.im 2 _]) rfl tF2 rfl rfl)) <| sT rfl (dN z203 rfl (oMv rfl rfl)) <| sT rfl (dN z203 rfl (oNl rfl rfl rfl)) <| sT rfl (dN z203 rfl (oFA (r' := .im 2 _) rfl fF178_2 rfl rfl)) <| sT rfl (dN z203 rfl (oLd (cs := [.im 2 _]) rfl tF2 rfl rfl)) <| sS (dN z203 rfl (oCa (xs := [.v false [.im 2 _], .v false [.im 2 _], .v false [.im 2 _]]) (vs := [(false, [.im 0 _])]) (v := .v false [.im 0 _]) (L_spec_l21Gain hx23) (.inl rfl) rfl kF256_2_2_2 rfl (ppC rfl (ppC rfl (ppC rfl pp0))) rfl rfl pb0 rfl rfl rfl)) trivial (sT rfl (dN z203 rfl (oBi rfl rfl rfl rfl)) <| sS (dN z203 rfl (oCa (xs := [.v false [.im 0 _], .v false [.im 0 _]]) (vs := [(false, [.im 0 _])]) (v := .v false [.im 0 _]) (L_spec_l00Min hx25) (.inl rfl) rfl kF255_2_2 rfl (ppC rfl (ppC rfl pp0)) rfl rfl pb0 rfl rfl rfl)) trivial (sS (dN z203 rfl (oAsI rfl rfl)) trivial (sD (by kernel_rfl))))) ?_
    refine Unw.seq ?_
    refine Go.ret (Unw.ret ?_)
    cases h
    exact Fin_ret (fin_of rfl rF203 rfl (by kernel_rfl))
  · rw [if_neg hc1] at h
    refine Go.condF rfl (byF iEq hc1) ?_
    refine Go.seq ?_
    refine Go.r0 c203 rfl rfl (sq z203 (oBi rfl rfl rfl rfl) <| sq z203 (oAsI rfl rfl) <| nl) ?_
    refine Unw.seq ?_
    by_cases hc2 : x_2.Kind = 2
    · rw [if_pos hc2] at h
      refine Go.condT rfl (iEq.2 hc2) ?_
      refine Go.seq ?_
      obtain ⟨x40, hx40, h⟩ := bs h
      refine Go.dr c203 rfl rfl rfl rfl (mk [(6, iv (w64 (shade_1 + x40)))] []) (sT rfl (dN z203 rfl (oMv rfl rfl)) <| sT rfl (dN z203 rfl (oMv rfl rfl)) <| sT rfl (dN z203 rfl (oNl rfl rfl rfl)) <| sT rfl (dN z203 rfl (oFA (r' := .im 2 _) rfl fF178_1 rfl rfl)) <| sT rfl (dN z203 rfl (oLd (cs := [.im 2 _]) rfl tF2 rfl rfl)) <| sT rfl (dN z203 rfl (oMv rfl rfl)) <| sT rfl (dN z203 rfl (oBi rfl rfl rfl rfl)) <| sT rfl (dN z203 rfl (oMv rfl rfl)) <| sT rfl (dN z203 rfl (oNl rfl rfl rfl)) <| sT rfl (dN z203 rfl (oFA (r' := .im 2 _) rfl fF178_2 rfl rfl)) <| sT rfl (dN z203 rfl (oLd (cs := [.im 2 _]) rfl tF2 rfl rfl)) <| sT rfl (dN z203 rfl (oBi rfl rfl rfl rfl)) <| sS (dN z203 rfl (oCa (xs := [.v false [.im 0 _], .v false [.im 0 _]]) (vs := [(false, [.im 0 _])]) (v := .v false [.im 0 _]) (L_spec_l01Div hx40) (.inl rfl) rfl kF257_2_2 rfl (ppC rfl (ppC rfl pp0)) rfl rfl pb0 rfl rfl rfl)) trivial (sT rfl (dN z203 rfl (oBi rfl rfl rfl rfl)) <| sS (dN z203 rfl (oAsI rfl rfl)) trivial (sD (by kernel_rfl)))) ?_
      refine Unw.seq ?_
      refine Go.ret (Unw.ret ?_)
      cases h
      exact Fin_ret (fin_of rfl rF203 rfl (by kernel_rfl))
    · rw [if_neg hc2] at h
      refine Go.condF rfl (byF iEq hc2) ?_
      refine Go.skip ?_
      refine Unw.blk ?_
      refine Unw.seq ?_
      refine Go.seq ?_
      obtain ⟨x47, hx47, h⟩ := bs h
      obtain ⟨x49, hx49, h⟩ := bs h
      refine Go.r0 c203 rfl rfl (sq z203 (oMv rfl rfl) <| sq z203 (oMv rfl rfl) <| sq z203 (oNl rfl rfl rfl) <| sq z203 (oFA (r' := .im 2 _) rfl fF178_1 rfl rfl) <| sq z203 (oLd (cs := [.im 2 _]) rfl tF2 rfl rfl) <| sq z203 (oQuo rfl hx47 rfl rfl) <| sq z203 (oBi rfl rfl rfl rfl) <| sq z203 (oCa (xs := [.v false [.im 0 _], .v false [.im 0 _]]) (vs := [(false, [.im 0 _])]) (v := .v false [.im 0 _]) (L_spec_l00Max hx49) (.inl rfl) rfl kF258_2_2 rfl (ppC rfl (ppC rfl pp0)) rfl rfl pb0 rfl rfl rfl) <| sq z203 (oAsI rfl rfl) <| nl) ?_
      refine Unw.seq ?_
      refine Go.ret (Unw.ret ?_)
      cases h
      exact Fin_ret (fin_of rfl rF203 rfl (by kernel_rfl))
theorem L_spec_l21Search_visit_F {self : (S_l21Search × Int) → Option (Bool × S_l21Search)} (ih : ∀ {x_0 : S_l21Search} {shade_1 : Int} {r : (Bool × S_l21Search)}, self (x_0, shade_1) = some r → FL Try.prog cfg 120 [.ptr true [(.imm, .sc (.int .i64 x_0.hardness)), (.imm, .sc (.int .i64 x_0.target)), (.imm, .sc (.int .i64 x_0.tolerance)), (.imm, .row 3 (List.map e_S_Step x_0.menu)), (.sh, .row 3 (List.map e_S_Step x_0.steps)), (.imm, .sc (.int .i64 x_0.depth)), (.imm, .sc (.int .i64 x_0.nodes)), (.imm, .sc (.int .i64 x_0.budget))], .im 2 false [.sc (.int .i64 shade_1)]] = some ([(false, [.im 0 (.sc (.bool r.1))])], [.ptr true [(.imm, .sc (.int .i64 r.2.hardness)), (.imm, .sc (.int .i64 r.2.target)), (.imm, .sc (.int .i64 r.2.tolerance)), (.imm, .row 3 (List.map e_S_Step r.2.menu)), (.sh, .row 3 (List.map e_S_Step r.2.steps)), (.imm, .sc (.int .i64 r.2.depth)), (.imm, .sc (.int .i64 r.2.nodes)), (.imm, .sc (.int .i64 r.2.budget))]])) {x_0 : S_l21Search} {shade_1 : Int} {r : (Bool × S_l21Search)} (h : spec_l21Search_visit_F self x_0 shade_1 = some r) : FL Try.prog cfg 120 [.ptr true [(.imm, .sc (.int .i64 x_0.hardness)), (.imm, .sc (.int .i64 x_0.target)), (.imm, .sc (.int .i64 x_0.tolerance)), (.imm, .row 3 (List.map e_S_Step x_0.menu)), (.sh, .row 3 (List.map e_S_Step x_0.steps)), (.imm, .sc (.int .i64 x_0.depth)), (.imm, .sc (.int .i64 x_0.nodes)), (.imm, .sc (.int .i64 x_0.budget))], .im 2 false [.sc (.int .i64 shade_1)]] = some ([(false, [.im 0 (.sc (.bool r.1))])], [.ptr true [(.imm, .sc (.int .i64 r.2.hardness)), (.imm, .sc (.int .i64 r.2.target)), (.imm, .sc (.int .i64 r.2.tolerance)), (.imm, .row 3 (List.map e_S_Step r.2.menu)), (.sh, .row 3 (List.map e_S_Step r.2.steps)), (.imm, .sc (.int .i64 r.2.depth)), (.imm, .sc (.int .i64 r.2.nodes)), (.imm, .sc (.int .i64 r.2.budget))]]) := by
  unfold spec_l21Search_visit_F at h
  refine FL_goS (A := [(0, .v false [.mp 0 0 0]), (1, .v false [.im 2 (.sc (.int .i64 shade_1))])]) (B := [(0, some ⟨0, 0, true, true, false, true, [⟨.imm, 0, 0, .sc (.int .i64 x_0.hardness)⟩, ⟨.imm, 0, 0, .sc (.int .i64 x_0.target)⟩, ⟨.imm, 0, 0, .sc (.int .i64 x_0.tolerance)⟩, ⟨.imm, 0, 1, .row 3 (List.map e_S_Step x_0.menu)⟩, ⟨.sh, 0, 0, .row 3 (List.map e_S_Step x_0.steps)⟩, ⟨.imm, 0, 0, .sc (.int .i64 x_0.depth)⟩, ⟨.imm, 0, 0, .sc (.int .i64 x_0.nodes)⟩, ⟨.imm, 0, 0, .sc (.int .i64 x_0.budget)⟩]⟩), (1, none)]) (nt := 105) rfl rfl Try.func120 rfl rfl rfl rfl ?_
  refine Go.seq ?_
  refine Go.r0 c120 rfl rfl (sq z120 (oAsI rfl rfl) <| nl) ?_
  refine Unw.seq ?_
  refine Go.seq ?_
  refine Go.r0 c120 rfl rfl (sq z120 (oMv rfl rfl) <| sq z120 (oNl rfl rfl rfl) <| sq z120 (oFA (r' := .mp 0 0 6) rfl fF176_6 rfl rfl) <| sq z120 (oLd (cs := [.im 0 _]) rfl tF2 rfl rfl) <| sq z120 (oBi rfl rfl rfl rfl) <| sq z120 (oNl rfl rfl rfl) <| sq z120 (oFA (r' := .mp 0 0 6) rfl fF176_6 rfl rfl) <| sq z120 (oSt tF2 rfl rfl rfl (tkI tk0) rfl rfl rfl) <| nl) ?_
  refine Unw.seq ?_
  refine Go.seq ?_
  refine Go.seq ?_
  refine Go.dr c120 rfl rfl rfl (st1 := mk [(0, .v false [.mp 0 0 0]), (1, iv shade_1)] [(0, some ⟨0, 0, true, true, false, true, [⟨.imm, 0, 0, .sc (.int .i64 x_0.hardness)⟩, ⟨.imm, 0, 0, .sc (.int .i64 x_0.target)⟩, ⟨.imm, 0, 0, .sc (.int .i64 x_0.tolerance)⟩, ⟨.imm, 0, 1, .row 3 (List.map e_S_Step x_0.menu)⟩, ⟨.sh, 0, 0, .row 3 (List.map e_S_Step x_0.steps)⟩, ⟨.imm, 0, 0, .sc (.int .i64 x_0.depth)⟩, ⟨.imm, 0, 0, .sc (.int .i64 (w64 (x_0.nodes + 1)))⟩, ⟨.imm, 0, 0, .sc (.int .i64 x_0.budget)⟩]⟩)]) (by kernel_rfl) (mk [(0, .v false [.mp 0 0 0]), (1, iv shade_1), (21, bv (decide ((w64 (x_0.nodes + 1)) > x_0.budget)))] [(0, some ⟨0, 0, true, true, false, true, [⟨.imm, 0, 0, .sc (.int .i64 x_0.hardness)⟩, ⟨.imm, 0, 0, .sc (.int .i64 x_0.target)⟩, ⟨.imm, 0, 0, .sc (.int .i64 x_0.tolerance)⟩, ⟨.imm, 0, 1, .row 3 (List.map e_S_Step x_0.menu)⟩, ⟨.sh, 0, 0, .row 3 (List.map e_S_Step x_0.steps)⟩, ⟨.imm, 0, 0, .sc (.int .i64 x_0.depth)⟩, ⟨.imm, 0, 0, .sc (.int .i64 (w64 (x_0.nodes + 1)))⟩, ⟨.imm, 0, 0, .sc (.int .i64 x_0.budget)⟩]⟩)]) (sT rfl (dN z120 rfl (oMv rfl rfl)) <| sT rfl (dN z120 rfl (oNl rfl rfl rfl)) <| sT rfl (dN z120 rfl (oFA (r' := .mp 0 0 6) rfl fF176_6 rfl rfl)) <| sT rfl (dN z120 rfl (oLd (cs := [.im 0 _]) rfl tF2 rfl rfl)) <| sT rfl (dN z120 rfl (oMv rfl rfl)) <| sT rfl (dN z120 rfl (oNl rfl rfl rfl)) <| sT rfl (dN z120 rfl (oFA (r' := .mp 0 0 7) rfl fF176_7 rfl rfl)) <| sT rfl (dN z120 rfl (oLd (cs := [.im 0 _]) rfl tF2 rfl rfl)) <| sT rfl (dN z120 rfl (oBi rfl rfl rfl rfl)) <| sD (by kernel_rfl)) ?_
  refine Unw.seq ?_
  by_cases hc1 : (w64 (x_0.nodes + 1)) > x_0.budget
  · rw [if_pos hc1] at h
    refine Go.condT rfl (iDec.2 hc1) ?_
    refine Go.seq ?_
    refine Go.r0 c120 rfl rfl (sq z120 (oAsI rfl rfl) <| nl) ?_
    refine Unw.seq ?_
    refine Go.ret (Unw.ret ?_)
    cases h
    exact Fin_ret (fin_of rfl rF120 rfl (by kernel_rfl))
  · rw [if_neg hc1] at h
    refine Go.condF rfl (byF iDec hc1) ?_
    refine Go.skip ?_
    refine Unw.seq ?_
    refine Go.seq ?_
    refine Go.seq ?_
    refine Go.dr c120 rfl rfl rfl rfl (mk [(0, .v false [.mp 0 0 0]), (1, iv shade_1), (31, bv ((x_0.steps.length : Int) == x_0.depth))] [(0, some ⟨0, 0, true, true, false, true, [⟨.imm, 0, 0, .sc (.int .i64 x_0.hardness)⟩, ⟨.imm, 0, 0, .sc (.int .i64 x_0.target)⟩, ⟨.imm, 0, 0, .sc (.int .i64 x_0.tolerance)⟩, ⟨.imm, 0, 1, .row 3 (List.map e_S_Step x_0.menu)⟩, ⟨.sh, 0, 0, .row 3 (List.map e_S_Step x_0.steps)⟩, ⟨.imm, 0, 0, .sc (.int .i64 x_0.depth)⟩, ⟨.imm, 0, 0, .sc (.int .i64 (w64 (x_0.nodes + 1)))⟩, ⟨.imm, 0, 0, .sc (.int .i64 x_0.budget)⟩]⟩)]) (sT rfl (dN z120 rfl (oMv rfl rfl)) <| sT rfl (dN z120 rfl (oNl rfl rfl rfl)) <| sT rfl (dN z120 rfl (oFA (r' := .mp 0 0 4) rfl fF176_4 rfl rfl)) <| sT rfl (dN z120 rfl (oLd (cs := [.own 0 0 4]) rfl tF63 rfl rfl)) <| sT rfl (dN z120 rfl (oLnO rfl rfl uF63 rfl rfl rfl (fun e => nomatch e))) <| sT rfl (dN z120 rfl (oMv rfl rfl)) <| sT rfl (dN z120 rfl (oNl rfl rfl rfl)) <| sT rfl (dN z120 rfl (oFA (r' := .mp 0 0 5) rfl fF176_5 rfl rfl)) <| sT rfl (dN z120 rfl (oLd (cs := [.im 0 _]) rfl tF3 rfl rfl)) <| sT rfl (dN z120 rfl (oBi rfl rfl rfl rfl)) <| sD (by kernel_rfl)) ?_
    refine Unw.seq ?_
    by_cases hc2 : (x_0.steps.length : Int) = x_0.depth
    · rw [if_pos hc2] at h
      refine Go.condT rfl (iEq.2 hc2) ?_
      refine Go.seq ?_
      obtain ⟨x51, hx51, h⟩ := bs h
      refine Go.dr c120 rfl rfl rfl rfl (mk [(4, bv x51)] [(0, some ⟨0, 0, true, true, false, true, [⟨.imm, 0, 0, .sc (.int .i64 x_0.hardness)⟩, ⟨.imm, 0, 0, .sc (.int .i64 x_0.target)⟩, ⟨.imm, 0, 0, .sc (.int .i64 x_0.tolerance)⟩, ⟨.imm, 0, 1, .row 3 (List.map e_S_Step x_0.menu)⟩, ⟨.sh, 0, 0, .row 3 (List.map e_S_Step x_0.steps)⟩, ⟨.imm, 0, 0, .sc (.int .i64 x_0.depth)⟩, ⟨.imm, 0, 0, .sc (.int .i64 (w64 (x_0.nodes + 1)))⟩, ⟨.imm, 0, 0, .sc (.int .i64 x_0.budget)⟩]⟩)]) (sT rfl (dN z120 rfl (oMv rfl rfl)) <| sT rfl (dN z120 rfl (oMv rfl rfl)) <| sT rfl (dN z120 rfl (oNl rfl rfl rfl)) <| sT rfl (dN z120 rfl (oFA (r' := .mp 0 0 1) rfl fF176_1 rfl rfl)) <| sT rfl (dN z120 rfl (oLd (cs := [.im 0 _]) rfl tF2 rfl rfl)) <| sT rfl (dN z120 rfl (oMv rfl rfl)) <| sT rfl (dN z120 rfl (oNl rfl rfl rfl)) <| sT rfl (dN z120 rfl (oFA (r' := .mp 0 0 2) rfl fF176_2 rfl rfl)) <| sT rfl (dN z120 rfl (oLd (cs := [.im 0 _]) rfl tF2 rfl rfl)) <| sT rfl (dN z120 rfl (oBi rfl rfl rfl rfl)) <| sT rfl (dN z120 rfl (oMv rfl rfl)) <| sT rfl (dN z120 rfl (oNl rfl rfl rfl)) <| sT rfl (dN z120 rfl (oFA (r' := .mp 0 0 1) rfl fF176_1 rfl rfl)) <| sT rfl (dN z120 rfl (oLd (cs := [.im 0 _]) rfl tF2 rfl rfl)) <| sT rfl (dN z120 rfl (oMv rfl rfl)) <| sT rfl (dN z120 rfl (oNl rfl rfl rfl)) <| sT rfl (dN z120 rfl (oFA (r' := .mp 0 0 2) rfl fF176_2 rfl rfl)) <| sT rfl (dN z120 rfl (oLd (cs := [.im 0 _]) rfl tF2 rfl rfl)) <| sT rfl (dN z120 rfl (oBi rfl rfl rfl rfl)) <| sS (dN z120 rfl (oCa (xs := [.v false [.im 0 _], .v false [.im 0 _], .v false [.im 0 _]]) (vs := [(false, [.im 0 _])]) (v := .v false [.im 0 _]) (L_spec_l00In hx51) (.inl rfl) rfl kF102_2_2_2 rfl (ppC rfl (ppC rfl (ppC rfl pp0))) rfl rfl pb0 rfl rfl rfl)) trivial (sS (dN z120 rfl (oAsI rfl rfl)) trivial (sD (by kernel_rfl)))) ?_
      refine Unw.seq ?_
      refine Go.ret (Unw.ret ?_)
      cases h
      exact Fin_ret (fin_of rfl rF120 rfl (by kernel_rfl))
    · rw [if_neg hc2] at h
      refine Go.condF rfl (byF iEq hc2) ?_
      refine Go.skip ?_
      refine Unw.seq ?_
      refine Go.seq ?_
      refine Go.seq ?_
      refine Go.r0 c120 rfl rfl (sq z120 (oAsI rfl rfl) <| nl) ?_
      refine Unw.seq ?_
      refine Go.block ?_
      obtain ⟨o, hl, h⟩ := bs h
      refine Go.lp c120 rfl _ (fun (s : (Int × Int × Int × Int × (List S_Step) × (List S_Step) × Int × Int × Int)) => match s with | (i_5_l7, x_o0_0_l7, x_o0_1_l7, x_o0_2_l7, x_o0_3_l7, x_o0_4_l7, x_o0_5_l7, x_o0_6_l7, x_o0_7_l7) => mk [(0, .v false [.mp 0 0 0]), (1, iv shade_1), (5, iv i_5_l7)] [(0, some ⟨0, 0, true, true, false, true, [⟨.imm, 0, 0, .sc (.int .i64 x_o0_0_l7)⟩, ⟨.imm, 0, 0, .sc (.int .i64 x_o0_1_l7)⟩, ⟨.imm, 0, 0, .sc (.int .i64 x_o0_2_l7)⟩, ⟨.imm, 0, 1, .row 3 (List.map e_S_Step x_o0_3_l7)⟩, ⟨.sh, 0, 0, .row 3 (List.map e_S_Step x_o0_4_l7)⟩, ⟨.imm, 0, 0, .sc (.int .i64 x_o0_5_l7)⟩, ⟨.imm, 0, 0, .sc (.int .i64 x_o0_6_l7)⟩, ⟨.imm, 0, 0, .sc (.int .i64 x_o0_7_l7)⟩]⟩)]) (fun (o : ((Int × Int × Int × (List S_Step) × (List S_Step) × Int × Int × Int) ⊕ (Bool × S_l21Search))) (p : Ex × St) => match o with | (.inl (x_o0_0_e0_7, x_o0_1_e0_7, x_o0_2_e0_7, x_o0_3_e0_7, x_o0_4_e0_7, x_o0_5_e0_7, x_o0_6_e0_7, x_o0_7_e0_7)) => p.1 = .exit 0 ∧ p.2.norm ([], [0]) = mk [] [(0, some ⟨0, 0, true, true, false, true, [⟨.imm, 0, 0, .sc (.int .i64 x_o0_0_e0_7)⟩, ⟨.imm, 0, 0, .sc (.int .i64 x_o0_1_e0_7)⟩, ⟨.imm, 0, 0, .sc (.int .i64 x_o0_2_e0_7)⟩, ⟨.imm, 0, 1, .row 3 (List.map e_S_Step x_o0_3_e0_7)⟩, ⟨.sh, 0, 0, .row 3 (List.map e_S_Step x_o0_4_e0_7)⟩, ⟨.imm, 0, 0, .sc (.int .i64 x_o0_5_e0_7)⟩, ⟨.imm, 0, 0, .sc (.int .i64 x_o0_6_e0_7)⟩, ⟨.imm, 0, 0, .sc (.int .i64 x_o0_7_e0_7)⟩]⟩)] | (.inr r2) => p.1 = .ret ∧ fin Try.prog cfg 120 Try.f120 [.ptr true [(.imm, .sc (.int .i64 x_0.hardness)), (.imm, .sc (.int .i64 x_0.target)), (.imm, .sc (.int .i64 x_0.tolerance)), (.imm, .row 3 (List.map e_S_Step x_0.menu)), (.sh, .row 3 (List.map e_S_Step x_0.steps)), (.imm, .sc (.int .i64 x_0.depth)), (.imm, .sc (.int .i64 x_0.nodes)), (.imm, .sc (.int .i64 x_0.budget))], .im 2 false [.sc (.int .i64 shade_1)]] p.2 = some ([(false, [.im 0 (.sc (.bool r2.1))])], [.ptr true [(.imm, .sc (.int .i64 r2.2.hardness)), (.imm, .sc (.int .i64 r2.2.target)), (.imm, .sc (.int .i64 r2.2.tolerance)), (.imm, .row 3 (List.map e_S_Step r2.2.menu)), (.sh, .row 3 (List.map e_S_Step r2.2.steps)), (.imm, .sc (.int .i64 r2.2.depth)), (.imm, .sc (.int .i64 r2.2.nodes)), (.imm, .sc (.int .i64 r2.2.budget))]])) hl (by kernel_rfl) ?_ ?_ ?_
      · intro o p hp e
        rcases o with ⟨x_o0_0_e0_7, x_o0_1_e0_7, x_o0_2_e0_7, x_o0_3_e0_7, x_o0_4_e0_7, x_o0_5_e0_7, x_o0_6_e0_7, x_o0_7_e0_7⟩ | r2 <;> exact nomatch (hp.1.symm.trans e)
      · rintro ⟨i_5_l7, x_o0_0_l7, x_o0_1_l7, x_o0_2_l7, x_o0_3_l7, x_o0_4_l7, x_o0_5_l7, x_o0_6_l7, x_o0_7_l7⟩ o h
        unfold spec_l21Search_visit_l7 at h
        dsimp only at h
        refine Go.seq ?_
        refine Go.seq ?_
        refine Go.r0 c120 rfl rfl (sq z120 (oMv rfl rfl) <| sq z120 (oMv rfl rfl) <| sq z120 (oNl rfl rfl rfl) <| sq z120 (oFA (r' := .mp 0 0 3) rfl fF176_3 rfl rfl) <| sq z120 (oLd (cs := [.im 1 _]) rfl tF63 rfl rfl) <| sq z120 (oLnI rfl rfl uF63 rfl) <| sq z120 (oBi rfl rfl rfl rfl) <| nl) ?_
        refine Unw.seq ?_
        by_cases hc7 : i_5_l7 < (x_o0_3_l7.length : Int)
        · rw [if_pos hc7] at h
          refine Go.condT rfl (iDec.2 hc7) ?_
          refine Go.skip ?_
          refine Unw.seq ?_
          refine Go.seq ?_
          refine Go.block ?_
          refine Go.seq ?_
          obtain ⟨x71, hx71, h⟩ := bs h
          obtain ⟨x74, hx74, h⟩ := bs h
          refine Go.dr c120 rfl rfl rfl rfl (mk [(0, .v false [.mp 0 0 0]), (1, iv shade_1), (5, iv i_5_l7)] [(0, some ⟨0, 0, true, true, false, true, [⟨.imm, 0, 0, .sc (.int .i64 x_o0_0_l7)⟩, ⟨.imm, 0, 0, .sc (.int .i64 x_o0_1_l7)⟩, ⟨.imm, 0, 0, .sc (.int .i64 x_o0_2_l7)⟩, ⟨.imm, 0, 1, .row 3 (List.map e_S_Step x_o0_3_l7)⟩, ⟨.sh, 0, 0, .row 3 (List.map e_S_Step x74)⟩, ⟨.imm, 0, 0, .sc (.int .i64 x_o0_5_l7)⟩, ⟨.imm, 0, 0, .sc (.int .i64 x_o0_6_l7)⟩, ⟨.imm, 0, 0, .sc (.int .i64 x_o0_7_l7)⟩]⟩)]) (sT rfl (dN z120 rfl (oMv rfl rfl)) <| sT rfl (dN z120 rfl (oMv rfl rfl)) <| sT rfl (dN z120 rfl (oMv rfl rfl)) <| sT rfl (dN z120 rfl (oNl rfl rfl rfl)) <| sT rfl (dN z120 rfl (oFA (r' := .mp 0 0 3) rfl fF176_3 rfl rfl)) <| sT rfl (dN z120 rfl (oLd (cs := [.im 1 _]) rfl tF63 rfl rfl)) <| sT rfl (dN z120 rfl (oMv rfl rfl)) <| sT rfl (dN z120 rfl (oIAI rfl hx71 sF63 rfl rfl)) <| sT rfl (dN z120 rfl (oLd (cs := [.im 1 _, .im 1 _, .im 1 _]) rfl tF178 rfl rfl)) <| sK (O := [0]) rfl rfl rfl (dN z120 rfl (oNl rfl rfl rfl)) <| sK (O := [0]) rfl rfl rfl (dN z120 rfl (oFA (r' := .mp 0 0 4) rfl fF176_4 rfl rfl)) <| sK (O := [0]) rfl rfl rfl (dN z120 rfl (oLd (cs := [.own 0 0 4]) rfl tF63 rfl rfl)) <| sS (dN z120 rfl (oBS (es := List.map e_S_Step ([x71] : List S_Step)) rfl sF63 rfl (ptC rfl (fxI (fxI (fxI fx0))) rfl pt0) (flat0 rfl fun _ => rfl))) (kY ⟨rfl, trivial⟩ (kY ⟨rfl, trivial⟩ (kY ⟨rfl, trivial⟩ trivial))) (sS (dN z120 rfl (oApO (en := e_S_Step) (M := ([x71] : List S_Step)) rfl hx74 rfl sF63 rfl rfl uF63 (.inl ⟨_, rfl⟩) rfl rfl rfl rfl (el_own rfl rfl) (flat0 rfl fun _ => rfl))) (kN rfl (kN rfl (kN rfl trivial))) (sT rfl (dN z120 rfl (oNl rfl rfl rfl)) <| sT rfl (dN z120 rfl (oFA (r' := .mp 0 0 4) rfl fF176_4 rfl rfl)) <| sS (dN z120 rfl (oSt tF63 rfl rfl rfl (tkO rfl rfl tk0) rfl rfl rfl)) (kN rfl (kN rfl (kN rfl trivial))) (sD (by kernel_rfl))))) ?_
          refine Unw.seq ?_
          refine Go.seq ?_
          refine Go.seq ?_
          obtain ⟨x88, hx88, h⟩ := bs h
          obtain ⟨x89, hx89, h⟩ := bs h
          obtain ⟨x90, hx90, h⟩ := bs h
          refine Go.dr c120 rfl rfl rfl rfl (mk [(0, .v false [.mp 0 0 0]), (1, iv shade_1), (5, iv i_5_l7), (90, bv x90.1)] [(0, some ⟨0, 0, true, true, false, true, [⟨.imm, 0, 0, .sc (.int .i64 x90.2.hardness)⟩, ⟨.imm, 0, 0, .sc (.int .i64 x90.2.target)⟩, ⟨.imm, 0, 0, .sc (.int .i64 x90.2.tolerance)⟩, ⟨.imm, 0, 1, .row 3 (List.map e_S_Step x90.2.menu)⟩, ⟨.sh, 0, 0, .row 3 (List.map e_S_Step x90.2.steps)⟩, ⟨.imm, 0, 0, .sc (.int .i64 x90.2.depth)⟩, ⟨.imm, 0, 0, .sc (.int .i64 x90.2.nodes)⟩, ⟨.imm, 0, 0, .sc (.int .i64 x90.2.budget)⟩]⟩)]) (sT rfl (dN z120 rfl (oMv rfl rfl)) <| sT rfl (dN z120 rfl (oMv rfl rfl)) <| sT rfl (dN z120 rfl (oNl rfl rfl rfl)) <| sT rfl (dN z120 rfl (oFA (r' := .mp 0 0 0) rfl fF176_0 rfl rfl)) <| sT rfl (dN z120 rfl (oLd (cs := [.im 0 _]) rfl tF2 rfl rfl)) <| sT rfl (dN z120 rfl (oMv rfl rfl)) <| sT rfl (dN z120 rfl (oMv rfl rfl)) <| sT rfl (dN z120 rfl (oNl rfl rfl rfl)) <| sT rfl (dN z120 rfl (oFA (r' := .mp 0 0 3) rfl fF176_3 rfl rfl)) <| sT rfl (dN z120 rfl (oLd (cs := [.im 1 _]) rfl tF63 rfl rfl)) <| sT rfl (dN z120 rfl (oMv rfl rfl)) <| sT rfl (dN z120 rfl (oIAI rfl hx88 sF63 rfl rfl)) <| sS (dN z120 rfl (oCa (xs := [.v false [.im 0 _], .v false [.im 0 _], .v false [.im 1 _]]) (vs := [(false, [.im 0 _])]) (v := .v false [.im 0 _]) (L_spec_l21Shade hx89) (.inl rfl) rfl kF203_2_2_295 rfl (ppC rfl (ppC rfl (ppC rfl pp0))) rfl rfl pb0 rfl rfl rfl)) trivial (sS (dN z120 rfl (oCa (xs := [.v false [.mp 0 0 0], .v false [.im 0 _]]) (vs := [(false, [.im 0 _])]) (v := .v false [.im 0 _]) (ih hx90) (.inl rfl) rfl kF120_173_2 rfl (ppPx (ob' := ⟨0, 0, true, true, false, true, [⟨.imm, 0, 0, .sc (.int .i64 x_o0_0_l7)⟩, ⟨.imm, 0, 0, .sc (.int .i64 x_o0_1_l7)⟩, ⟨.imm, 0, 0, .sc (.int .i64 x_o0_2_l7)⟩, ⟨.imm, 0, 1, .row 3 (List.map e_S_Step x_o0_3_l7)⟩, ⟨.sh, 0, 0, .row 3 (List.map e_S_Step x74)⟩, ⟨.imm, 0, 0, .sc (.int .i64 x_o0_5_l7)⟩, ⟨.imm, 0, 0, .sc (.int .i64 x_o0_6_l7)⟩, ⟨.imm, 0, 0, .sc (.int .i64 x_o0_7_l7)⟩]⟩) rfl rfl rfl (by kernel_rfl) (ppC rfl pp0)) rfl rfl (pbPx (ob' := ⟨0, 1, true, true, false, true, [⟨.imm, 1, 0, .sc (.int .i64 x90.2.hardness)⟩, ⟨.imm, 1, 0, .sc (.int .i64 x90.2.target)⟩, ⟨.imm, 1, 0, .sc (.int .i64 x90.2.tolerance)⟩, ⟨.imm, 1, 1, .row 3 (List.map e_S_Step x90.2.menu)⟩, ⟨.sh, 1, 0, .row 3 (List.map e_S_Step x90.2.steps)⟩, ⟨.imm, 1, 0, .sc (.int .i64 x90.2.depth)⟩, ⟨.imm, 1, 0, .sc (.int .i64 x90.2.nodes)⟩, ⟨.imm, 1, 0, .sc (.int .i64 x90.2.budget)⟩]⟩) rfl rfl (by kernel_rfl) pb0) rfl rfl rfl)) trivial (sD (by kernel_rfl)))) ?_
          refine Unw.seq ?_
          by_cases hc8 : x90.1 = true
          · rw [if_pos hc8] at h
            refine Go.condT rfl (Iff.rfl.2 hc8) ?_
            refine Go.seq ?_
            refine Go.r0 c120 rfl rfl (sq z120 (oAsI rfl rfl) <| nl) ?_
            refine Unw.seq ?_
            refine Go.ret (Unw.ret ?_)
            cases h
            exact ⟨rfl, (fin_of rfl rF120 rfl (by kernel_rfl))⟩
          · rw [if_neg hc8] at h
            refine Go.condF rfl (byF Iff.rfl hc8) ?_
            refine Go.skip ?_
            refine Unw.seq ?_
            obtain ⟨x102, hx102, h⟩ := bs h
            refine Go.dr c120 rfl rfl rfl rfl (mk [(0, .v false [.mp 0 0 0]), (1, iv shade_1), (5, iv i_5_l7)] [(0, some ⟨0, 0, true, true, false, true, [⟨.imm, 0, 0, .sc (.int .i64 x90.2.hardness)⟩, ⟨.imm, 0, 0, .sc (.int .i64 x90.2.target)⟩, ⟨.imm, 0, 0, .sc (.int .i64 x90.2.tolerance)⟩, ⟨.imm, 0, 1, .row 3 (List.map e_S_Step x90.2.menu)⟩, ⟨.sh, 0, 0, .row 3 (List.map e_S_Step ((x90.2.steps.take ((w64 ((x90.2.steps.length : Int) - 1)).toNat)).drop 0))⟩, ⟨.imm, 0, 0, .sc (.int .i64 x90.2.depth)⟩, ⟨.imm, 0, 0, .sc (.int .i64 x90.2.nodes)⟩, ⟨.imm, 0, 0, .sc (.int .i64 x90.2.budget)⟩]⟩)]) (sT rfl (dN z120 rfl (oMv rfl rfl)) <| sT rfl (dN z120 rfl (oMv rfl rfl)) <| sT rfl (dN z120 rfl (oNl rfl rfl rfl)) <| sT rfl (dN z120 rfl (oFA (r' := .mp 0 0 4) rfl fF176_4 rfl rfl)) <| sT rfl (dN z120 rfl (oLd (cs := [.own 0 0 4]) rfl tF63 rfl rfl)) <| sT rfl (dN z120 rfl (oMv rfl rfl)) <| sT rfl (dN z120 rfl (oNl rfl rfl rfl)) <| sT rfl (dN z120 rfl (oFA (r' := .mp 0 0 4) rfl fF176_4 rfl rfl)) <| sT rfl (dN z120 rfl (oLd (cs := [.own 0 0 4]) rfl tF63 rfl rfl)) <| sT rfl (dN z120 rfl (oLnO rfl rfl uF63 rfl rfl rfl (fun e => nomatch e))) <| sT rfl (dN z120 rfl (oBi rfl rfl rfl rfl)) <| sS (dN z120 rfl (oSlO rfl hx102 sF63 rfl rfl rfl bn0 (bn1 rfl) rfl rfl rfl)) trivial (sT rfl (dN z120 rfl (oNl rfl rfl rfl)) <| sT rfl (dN z120 rfl (oFA (r' := .mp 0 0 4) rfl fF176_4 rfl rfl)) <| sS (dN z120 rfl (oSt tF63 rfl rfl rfl (tkSM rfl rfl tk0) rfl rfl rfl)) trivial (sD (by kernel_rfl)))) ?_
            refine Unw.blk ?_
            refine Unw.seq ?_
            refine Go.r0 c120 rfl rfl (sq z120 (oMv rfl rfl) <| sq z120 (oBi rfl rfl rfl rfl) <| sq z120 (oAsI rfl rfl) <| nl) ?_
            refine Unw.nil ?_
            cases h
            exact ⟨rfl, (by kernel_rfl)⟩
        · rw [if_neg hc7] at h
          refine Go.condF rfl (byF iDec hc7) ?_
          refine Go.exit ?_
          refine Unw.seqx ?_
          refine Unw.nil ?_
          cases h
          exact ⟨rfl, (by kernel_rfl)⟩
      · rintro ⟨e, st⟩ hp
        rcases o with ⟨x_o0_0_e0_7, x_o0_1_e0_7, x_o0_2_e0_7, x_o0_3_e0_7, x_o0_4_e0_7, x_o0_5_e0_7, x_o0_6_e0_7, x_o0_7_e0_7⟩ | r2
        · dsimp only at h
          obtain ⟨he, hst⟩ := hp
          obtain rfl : e = .exit 0 := he
          refine Unw.blkx ?_
          refine Unw.seq ?_
          refine Go.seq ?_
          refine Go.r1 c120 rfl rfl hst (sq z120 (oAsI rfl rfl) <| nl) ?_
          refine Unw.seq ?_
          refine Go.ret (Unw.ret ?_)
          cases h
          exact Fin_ret (fin_of rfl rF120 rfl (by kernel_rfl))
        · dsimp only at h
          obtain ⟨he, hfin⟩ := hp
          obtain rfl : e = .ret := he
          cases h
          exact Unw.ret (Fin_ret hfin)
theorem L_spec_l21Search_visit {x_0 : S_l21Search} {shade_1 : Int} {r : (Bool × S_l21Search)} (h : spec_l21Search_visit x_0 shade_1 = some r) : FL Try.prog cfg 120 [.ptr true [(.imm, .sc (.int .i64 x_0.hardness)), (.imm, .sc (.int .i64 x_0.target)), (.imm, .sc (.int .i64 x_0.tolerance)), (.imm, .row 3 (List.map e_S_Step x_0.menu)), (.sh, .row 3 (List.map e_S_Step x_0.steps)), (.imm, .sc (.int .i64 x_0.depth)), (.imm, .sc (.int .i64 x_0.nodes)), (.imm, .sc (.int .i64 x_0.budget))], .im 2 false [.sc (.int .i64 shade_1)]] = some ([(false, [.im 0 (.sc (.bool r.1))])], [.ptr true [(.imm, .sc (.int .i64 r.2.hardness)), (.imm, .sc (.int .i64 r.2.target)), (.imm, .sc (.int .i64 r.2.tolerance)), (.imm, .row 3 (List.map e_S_Step r.2.menu)), (.sh, .row 3 (List.map e_S_Step r.2.steps)), (.imm, .sc (.int .i64 r.2.depth)), (.imm, .sc (.int .i64 r.2.nodes)), (.imm, .sc (.int .i64 r.2.budget))]]) := by
  unfold spec_l21Search_visit at h
  obtain ⟨n, hn⟩ := fixO_iter h
  clear h
  induction n generalizing x_0 shade_1 r with
  | zero => cases hn
  | succ n ihn => exact L_spec_l21Search_visit_F (self := iterO _ n) (fun h => ihn h) hn
theorem L_spec_FewestSteps {species_0 : ByteArray} {shade_1 : Int} {target_2 : Int} {tolerance_3 : Int} {menu_4 : (List S_Step)} {budget_5 : Int} {r : ((List S_Step) × Int)} (h : spec_FewestSteps species_0 shade_1 target_2 tolerance_3 menu_4 budget_5 = some r) : FL Try.prog cfg 41 [.im 2 false [.sc (.string species_0)], .im 2 false [.sc (.int .i64 shade_1)], .im 2 false [.sc (.int .i64 target_2)], .im 2 false [.sc (.int .i64 tolerance_3)], .im 2 false [.row 3 (List.map e_S_Step menu_4)], .im 2 false [.sc (.int .i64 budget_5)]] = some ([(false, [.ow 0 3 (List.map e_S_Step r.1)]), (false, [.im 0 (.sc (.int .i64 r.2))])], []) := by
  unfold spec_FewestSteps at h
  refine FL_goS (A := [(0, .v false [.im 2 (.sc (.string species_0))]), (1, .v false [.im 2 (.sc (.int .i64 shade_1))]), (2, .v false [.im 2 (.sc (.int .i64 target_2))]), (3, .v false [.im 2 (.sc (.int .i64 tolerance_3))]), (4, .v false [.im 2 (.row 3 (List.map e_S_Step menu_4))]), (5, .v false [.im 2 (.sc (.int .i64 budget_5))])]) (B := [(0, none), (1, none), (2, none), (3, none), (4, none), (5, none)]) (nt := 83) rfl rfl Try.func41 rfl rfl rfl rfl ?_
  refine Go.seq ?_
  refine Go.r0 c41 rfl rfl (sq z41 (oAsN rfl rfl eF63) <| sq z41 (oAsI rfl rfl) <| nl) ?_
  refine Unw.seq ?_
  refine Go.seq ?_
  refine Go.seq ?_
  obtain ⟨x17, hx17, h⟩ := bs h
  refine Go.r0 c41 rfl rfl (sq z41 (oMv rfl rfl) <| sq z41 (oCa (xs := [.v false [.im 2 _]]) (vs := [(false, [.im 0 _])]) (v := .v false [.im 0 _]) (L_spec_l21Steps hx17) (.inl rfl) rfl kF117_63 rfl (ppC rfl pp0) rfl rfl pb0 rfl rfl rfl) <| sq z41 (oUn rfl rfl rfl) <| nl) ?_
  refine Unw.seq ?_
  by_cases hc1 : x17 = true
  · rw [if_pos hc1] at h
    refine Go.condF rfl (nF (Iff.rfl.2 hc1)) ?_
    refine Go.skip ?_
    refine Unw.seq ?_
    refine Go.seq ?_
    refine Go.seq ?_
    obtain ⟨x20, hx20, h⟩ := bs h
    obtain ⟨t_36_m3, hm16, h⟩ := bs h
    refine Go.rX c41 rfl rfl rfl (mk [(0, sv species_0), (1, iv shade_1), (2, iv target_2), (3, iv tolerance_3), (4, .v false [.im 2 (.row 3 (List.map e_S_Step menu_4))]), (5, iv budget_5), (36, bv t_36_m3)] []) ?_ ?_
    · by_cases hc2 : x20 = true
      · rw [if_pos hc2] at hm16
        obtain ⟨x24, hx24, hm16⟩ := bs hm16
        by_cases hc3 : x24 = true
        · rw [if_pos hc3] at hm16
          obtain ⟨x29, hx29, hm16⟩ := bs hm16
          by_cases hc4 : x29 = true
          · rw [if_pos hc4] at hm16
            obtain ⟨x34, hx34, hm16⟩ := bs hm16
            cases hm16
            exact ⟨_, sq z41 (oMv rfl rfl) <| sq z41 (oCa (xs := [.v false [.im 2 _], .v false [.im 0 _], .v false [.im 0 _]]) (vs := [(false, [.im 0 _])]) (v := .v false [.im 0 _]) (L_spec_l00In hx20) (.inl rfl) rfl kF102_2_2_2 rfl (ppC rfl (ppC rfl (ppC rfl pp0))) rfl rfl pb0 rfl rfl rfl) <| sq z41 (oUn rfl rfl rfl) <| sq z41 (oMv rfl rfl) <| sgT z41 rfl rfl (nF (Iff.rfl.2 hc2)) (oMv rfl rfl) <| sgT z41 rfl rfl (nF (Iff.rfl.2 hc2)) (oCa (xs := [.v false [.im 2 _], .v false [.im 0 _], .v false [.im 0 _]]) (vs := [(false, [.im 0 _])]) (v := .v false [.im 0 _]) (L_spec_l00In hx24) (.inl rfl) rfl kF102_2_2_2 rfl (ppC rfl (ppC rfl (ppC rfl pp0))) rfl rfl pb0 rfl rfl rfl) <| sgT z41 rfl rfl (nF (Iff.rfl.2 hc2)) (oUn rfl rfl rfl) <| sq z41 (oPkF rfl rfl (nF (Iff.rfl.2 hc2)) rfl) <| sq z41 (oMv rfl rfl) <| sgT z41 rfl rfl (nF (Iff.rfl.2 hc3)) (oMv rfl rfl) <| sgT z41 rfl rfl (nF (Iff.rfl.2 hc3)) (oCa (xs := [.v false [.im 2 _], .v false [.im 0 _], .v false [.im 0 _]]) (vs := [(false, [.im 0 _])]) (v := .v false [.im 0 _]) (L_spec_l00In hx29) (.inl rfl) rfl kF102_2_2_2 rfl (ppC rfl (ppC rfl (ppC rfl pp0))) rfl rfl pb0 rfl rfl rfl) <| sgT z41 rfl rfl (nF (Iff.rfl.2 hc3)) (oUn rfl rfl rfl) <| sq z41 (oPkF rfl rfl (nF (Iff.rfl.2 hc3)) rfl) <| sq z41 (oMv rfl rfl) <| sgT z41 rfl rfl (nF (Iff.rfl.2 hc4)) (oMv rfl rfl) <| sgT z41 rfl rfl (nF (Iff.rfl.2 hc4)) (oCa (xs := [.v false [.im 2 _], .v false [.im 0 _], .v false [.im 0 _]]) (vs := [(false, [.im 0 _])]) (v := .v false [.im 0 _]) (L_spec_l00In hx34) (.inl rfl) rfl kF102_2_2_2 rfl (ppC rfl (ppC rfl (ppC rfl pp0))) rfl rfl pb0 rfl rfl rfl) <| sgT z41 rfl rfl (nF (Iff.rfl.2 hc4)) (oUn rfl rfl rfl) <| sq z41 (oPkF rfl rfl (nF (Iff.rfl.2 hc4)) rfl) <| nl, (by kernel_rfl)⟩
          · rw [if_neg hc4] at hm16
            cases hm16
            exact ⟨_, sq z41 (oMv rfl rfl) <| sq z41 (oCa (xs := [.v false [.im 2 _], .v false [.im 0 _], .v false [.im 0 _]]) (vs := [(false, [.im 0 _])]) (v := .v false [.im 0 _]) (L_spec_l00In hx20) (.inl rfl) rfl kF102_2_2_2 rfl (ppC rfl (ppC rfl (ppC rfl pp0))) rfl rfl pb0 rfl rfl rfl) <| sq z41 (oUn rfl rfl rfl) <| sq z41 (oMv rfl rfl) <| sgT z41 rfl rfl (nF (Iff.rfl.2 hc2)) (oMv rfl rfl) <| sgT z41 rfl rfl (nF (Iff.rfl.2 hc2)) (oCa (xs := [.v false [.im 2 _], .v false [.im 0 _], .v false [.im 0 _]]) (vs := [(false, [.im 0 _])]) (v := .v false [.im 0 _]) (L_spec_l00In hx24) (.inl rfl) rfl kF102_2_2_2 rfl (ppC rfl (ppC rfl (ppC rfl pp0))) rfl rfl pb0 rfl rfl rfl) <| sgT z41 rfl rfl (nF (Iff.rfl.2 hc2)) (oUn rfl rfl rfl) <| sq z41 (oPkF rfl rfl (nF (Iff.rfl.2 hc2)) rfl) <| sq z41 (oMv rfl rfl) <| sgT z41 rfl rfl (nF (Iff.rfl.2 hc3)) (oMv rfl rfl) <| sgT z41 rfl rfl (nF (Iff.rfl.2 hc3)) (oCa (xs := [.v false [.im 2 _], .v false [.im 0 _], .v false [.im 0 _]]) (vs := [(false, [.im 0 _])]) (v := .v false [.im 0 _]) (L_spec_l00In hx29) (.inl rfl) rfl kF102_2_2_2 rfl (ppC rfl (ppC rfl (ppC rfl pp0))) rfl rfl pb0 rfl rfl rfl) <| sgT z41 rfl rfl (nF (Iff.rfl.2 hc3)) (oUn rfl rfl rfl) <| sq z41 (oPkF rfl rfl (nF (Iff.rfl.2 hc3)) rfl) <| sq z41 (oMv rfl rfl) <| sgF rfl rfl (nT (byF Iff.rfl hc4)) rfl <| sgF rfl rfl (nT (byF Iff.rfl hc4)) rfl <| sgF rfl rfl (nT (byF Iff.rfl hc4)) rfl <| sq z41 (oPkT rfl rfl (nT (byF Iff.rfl hc4)) rfl) <| nl, (by kernel_rfl)⟩
        · rw [if_neg hc3] at hm16
          cases hm16
          exact ⟨_, sq z41 (oMv rfl rfl) <| sq z41 (oCa (xs := [.v false [.im 2 _], .v false [.im 0 _], .v false [.im 0 _]]) (vs := [(false, [.im 0 _])]) (v := .v false [.im 0 _]) (L_spec_l00In hx20) (.inl rfl) rfl kF102_2_2_2 rfl (ppC rfl (ppC rfl (ppC rfl pp0))) rfl rfl pb0 rfl rfl rfl) <| sq z41 (oUn rfl rfl rfl) <| sq z41 (oMv rfl rfl) <| sgT z41 rfl rfl (nF (Iff.rfl.2 hc2)) (oMv rfl rfl) <| sgT z41 rfl rfl (nF (Iff.rfl.2 hc2)) (oCa (xs := [.v false [.im 2 _], .v false [.im 0 _], .v false [.im 0 _]]) (vs := [(false, [.im 0 _])]) (v := .v false [.im 0 _]) (L_spec_l00In hx24) (.inl rfl) rfl kF102_2_2_2 rfl (ppC rfl (ppC rfl (ppC rfl pp0))) rfl rfl pb0 rfl rfl rfl) <| sgT z41 rfl rfl (nF (Iff.rfl.2 hc2)) (oUn rfl rfl rfl) <| sq z41 (oPkF rfl rfl (nF (Iff.rfl.2 hc2)) rfl) <| sq z41 (oMv rfl rfl) <| sgF rfl rfl (nT (byF Iff.rfl hc3)) rfl <| sgF rfl rfl (nT (byF Iff.rfl hc3)) rfl <| sgF rfl rfl (nT (byF Iff.rfl hc3)) rfl <| sq z41 (oPkT rfl rfl (nT (byF Iff.rfl hc3)) rfl) <| sq z41 (oMv rfl rfl) <| sgF rfl rfl rfl rfl <| sgF rfl rfl rfl rfl <| sgF rfl rfl rfl rfl <| sq z41 (oPkT rfl rfl rfl rfl) <| nl, (by kernel_rfl)⟩
      · rw [if_neg hc2] at hm16
        cases hm16
        exact ⟨_, sq z41 (oMv rfl rfl) <| sq z41 (oCa (xs := [.v false [.im 2 _], .v false [.im 0 _], .v false [.im 0 _]]) (vs := [(false, [.im 0 _])]) (v := .v false [.im 0 _]) (L_spec_l00In hx20) (.inl rfl) rfl kF102_2_2_2 rfl (ppC rfl (ppC rfl (ppC rfl pp0))) rfl rfl pb0 rfl rfl rfl) <| sq z41 (oUn rfl rfl rfl) <| sq z41 (oMv rfl rfl) <| sgF rfl rfl (nT (byF Iff.rfl hc2)) rfl <| sgF rfl rfl (nT (byF Iff.rfl hc2)) rfl <| sgF rfl rfl (nT (byF Iff.rfl hc2)) rfl <| sq z41 (oPkT rfl rfl (nT (byF Iff.rfl hc2)) rfl) <| sq z41 (oMv rfl rfl) <| sgF rfl rfl rfl rfl <| sgF rfl rfl rfl rfl <| sgF rfl rfl rfl rfl <| sq z41 (oPkT rfl rfl rfl rfl) <| sq z41 (oMv rfl rfl) <| sgF rfl rfl rfl rfl <| sgF rfl rfl rfl rfl <| sgF rfl rfl rfl rfl <| sq z41 (oPkT rfl rfl rfl rfl) <| nl, (by kernel_rfl)⟩
    · refine Unw.seq ?_
      by_cases hc5 : t_36_m3 = true
      · rw [if_pos hc5] at h
        refine Go.condT rfl (Iff.rfl.2 hc5) ?_
        refine Go.seq ?_
        refine Go.r0 c41 rfl rfl (sq z41 (oAsN rfl rfl eF63) <| sq z41 (oAsI rfl rfl) <| nl) ?_
        refine Unw.seq ?_
        refine Go.ret (Unw.ret ?_)
        cases h
        exact Fin_ret (fin_of rfl rF41 rfl (by kernel_rfl))
      · rw [if_neg hc5] at h
        refine Go.condF rfl (byF Iff.rfl hc5) ?_
        refine Go.skip ?_
        refine Unw.seq ?_
        refine Go.seq ?_
        refine Go.seq ?_
        obtain ⟨x38, hx38, h⟩ := bs h
        refine Go.r0 c41 rfl rfl (sq z41 (oMv rfl rfl) <| sq z41 (oCa (xs := [.v false [.im 0 _]]) (vs := [(false, [.im 0 _])]) (v := .v false [.im 0 _]) (L_spec_l07Find hx38) (.inl rfl) rfl kF118_9 rfl (ppC rfl pp0) rfl rfl pb0 rfl rfl rfl) <| sq z41 (oBi rfl rfl rfl rfl) <| nl) ?_
        refine Unw.seq ?_
        by_cases hc6 : x38 < 0
        · rw [if_pos hc6] at h
          refine Go.condT rfl (iDec.2 hc6) ?_
          refine Go.seq ?_
          refine Go.r0 c41 rfl rfl (sq z41 (oAsN rfl rfl eF63) <| sq z41 (oAsI rfl rfl) <| nl) ?_
          refine Unw.seq ?_
          refine Go.ret (Unw.ret ?_)
          cases h
          exact Fin_ret (fin_of rfl rF41 rfl (by kernel_rfl))
        · rw [if_neg hc6] at h
          refine Go.condF rfl (byF iDec hc6) ?_
          refine Go.skip ?_
          refine Unw.seq ?_
          refine Go.seq ?_
          obtain ⟨x41, hx41, h⟩ := bs h
          refine Go.r0 c41 rfl rfl (sq z41 (oMv rfl rfl) <| sq z41 (oCa (xs := [.v false [.im 0 _]]) (vs := [(false, [.im 0 _])]) (v := .v false [.im 0 _]) (L_spec_l21Hardness hx41) (.inl rfl) rfl kF119_9 rfl (ppC rfl pp0) rfl rfl pb0 rfl rfl rfl) <| sq z41 (oMv rfl rfl) <| sq z41 (oMv rfl rfl) <| sq z41 (oMv rfl rfl) <| sq z41 (oMv rfl rfl) <| sq z41 (oBu (cs := [.im 0 _, .im 0 _, .im 0 _, .im 2 _, .nil, .im 0 _, .im 0 _, .im 0 _]) rfl bF176 rfl) <| sq z41 (oBx rfl tF176 rfl (tkI (tkI (tkI (tkI (tkN (tkI (tkI (tkI tk0))))))))) <| sq z41 (oAsP rfl rfl) <| nl) ?_
          refine Unw.seq ?_
          refine Go.seq ?_
          refine Go.seq ?_
          refine Go.r1 c41 rfl rfl (st1 := mk [(1, iv shade_1), (5, iv budget_5), (14, .v false [.mp 47 0 0])] [(47, some ⟨0, 0, false, true, false, true, [⟨.imm, 0, 0, .sc (.int .i64 x41)⟩, ⟨.imm, 0, 0, .sc (.int .i64 target_2)⟩, ⟨.imm, 0, 0, .sc (.int .i64 tolerance_3)⟩, ⟨.imm, 0, 2, .row 3 (List.map e_S_Step menu_4)⟩, ⟨.sh, 0, 0, .row 3 (List.map e_S_Step ([] : List S_Step))⟩, ⟨.imm, 0, 0, .sc (.int .i64 0)⟩, ⟨.imm, 0, 0, .sc (.int .i64 0)⟩, ⟨.imm, 0, 0, .sc (.int .i64 budget_5)⟩]⟩)]) (by kernel_rfl) (sq z41 (oMv rfl rfl) <| sq z41 (oNl rfl rfl rfl) <| sq z41 (oFA (r' := .mp 47 0 5) rfl fF176_5 rfl rfl) <| sq z41 (oSt tF3 rfl rfl rfl (tkI tk0) rfl rfl rfl) <| nl) ?_
          refine Unw.seq ?_
          refine Go.block ?_
          obtain ⟨o, hl, h⟩ := bs h
          refine Go.lp c41 rfl _ (fun (s : (Int × Int × Int × (List S_Step) × (List S_Step) × Int × Int × Int)) => match s with | (o_o47_0_l9, o_o47_1_l9, o_o47_2_l9, o_o47_3_l9, o_o47_4_l9, o_o47_5_l9, o_o47_6_l9, o_o47_7_l9) => mk [(1, iv shade_1), (5, iv budget_5), (14, .v false [.mp 47 0 0])] [(47, some ⟨0, 0, false, true, false, true, [⟨.imm, 0, 0, .sc (.int .i64 o_o47_0_l9)⟩, ⟨.imm, 0, 0, .sc (.int .i64 o_o47_1_l9)⟩, ⟨.imm, 0, 0, .sc (.int .i64 o_o47_2_l9)⟩, ⟨.imm, 0, 2, .row 3 (List.map e_S_Step o_o47_3_l9)⟩, ⟨.sh, 0, 0, .row 3 (List.map e_S_Step o_o47_4_l9)⟩, ⟨.imm, 0, 0, .sc (.int .i64 o_o47_5_l9)⟩, ⟨.imm, 0, 0, .sc (.int .i64 o_o47_6_l9)⟩, ⟨.imm, 0, 0, .sc (.int .i64 o_o47_7_l9)⟩]⟩)]) (fun (o : (Unit ⊕ ((List S_Step) × Int))) (p : Ex × St) => match o with | (.inl _) => p.1 = .exit 0 ∧ p.2.norm ([], []) = mk [] [] | (.inr r2) => p.1 = .ret ∧ fin Try.prog cfg 41 Try.f41 [.im 2 false [.sc (.string species_0)], .im 2 false [.sc (.int .i64 shade_1)], .im 2 false [.sc (.int .i64 target_2)], .im 2 false [.sc (.int .i64 tolerance_3)], .im 2 false [.row 3 (List.map e_S_Step menu_4)], .im 2 false [.sc (.int .i64 budget_5)]] p.2 = some ([(false, [.ow 0 3 (List.map e_S_Step r2.1)]), (false, [.im 0 (.sc (.int .i64 r2.2))])], [])) hl (by kernel_rfl) ?_ ?_ ?_
          · intro o p hp e
            rcases o with u | r2 <;> exact nomatch (hp.1.symm.trans e)
          · rintro ⟨o_o47_0_l9, o_o47_1_l9, o_o47_2_l9, o_o47_3_l9, o_o47_4_l9, o_o47_5_l9, o_o47_6_l9, o_o47_7_l9⟩ o h
            unfold spec_FewestSteps_l9 at h
            dsimp only at h
            refine Go.seq ?_
            refine Go.seq ?_
            refine Go.r0 c41 rfl rfl (sq z41 (oMv rfl rfl) <| sq z41 (oNl rfl rfl rfl) <| sq z41 (oFA (r' := .mp 47 0 5) rfl fF176_5 rfl rfl) <| sq z41 (oLd (cs := [.im 0 _]) rfl tF3 rfl rfl) <| sq z41 (oBi rfl rfl rfl rfl) <| nl) ?_
            refine Unw.seq ?_
            by_cases hc13 : o_o47_5_l9 ≤ 8
            · rw [if_pos hc13] at h
              refine Go.condT rfl (iDec.2 hc13) ?_
              refine Go.skip ?_
              refine Unw.seq ?_
              refine Go.seq ?_
              refine Go.block ?_
              refine Go.seq ?_
              refine Go.r0 c41 rfl rfl (sq z41 (oMv rfl rfl) <| sq z41 (oBS (es := List.map e_S_Step ([] : List S_Step)) rfl sF63 rfl pt0 (flat0 rfl fun _ => rfl)) <| sq z41 (oNl rfl rfl rfl) <| sq z41 (oFA (r' := .mp 47 0 4) rfl fF176_4 rfl rfl) <| sq z41 (oSt tF63 rfl rfl rfl (tkO rfl rfl tk0) rfl rfl rfl) <| nl) ?_
              refine Unw.seq ?_
              refine Go.seq ?_
              obtain ⟨x69, hx69, h⟩ := bs h
              refine Go.r1 c41 rfl rfl (st1 := mk [(1, iv shade_1), (5, iv budget_5), (14, .v false [.mp 47 0 0])] [(47, some ⟨0, 0, false, true, false, true, [⟨.imm, 0, 0, .sc (.int .i64 o_o47_0_l9)⟩, ⟨.imm, 0, 0, .sc (.int .i64 o_o47_1_l9)⟩, ⟨.imm, 0, 0, .sc (.int .i64 o_o47_2_l9)⟩, ⟨.imm, 0, 2, .row 3 (List.map e_S_Step o_o47_3_l9)⟩, ⟨.sh, 0, 0, .row 3 (List.map e_S_Step ([] : List S_Step))⟩, ⟨.imm, 0, 0, .sc (.int .i64 o_o47_5_l9)⟩, ⟨.imm, 0, 0, .sc (.int .i64 o_o47_6_l9)⟩, ⟨.imm, 0, 0, .sc (.int .i64 o_o47_7_l9)⟩]⟩)]) (by kernel_rfl) (sq z41 (oMv rfl rfl) <| sq z41 (oMv rfl rfl) <| sq z41 (oCa (xs := [.v false [.mp 47 0 0], .v false [.im 0 _]]) (vs := [(false, [.im 0 _])]) (v := .v false [.im 0 _]) (L_spec_l21Search_visit hx69) (.inl rfl) rfl kF120_173_2 rfl (ppPx (ob' := ⟨0, 0, false, true, false, true, [⟨.imm, 0, 0, .sc (.int .i64 o_o47_0_l9)⟩, ⟨.imm, 0, 0, .sc (.int .i64 o_o47_1_l9)⟩, ⟨.imm, 0, 0, .sc (.int .i64 o_o47_2_l9)⟩, ⟨.imm, 0, 2, .row 3 (List.map e_S_Step o_o47_3_l9)⟩, ⟨.sh, 0, 0, .row 3 (List.map e_S_Step ([] : List S_Step))⟩, ⟨.imm, 0, 0, .sc (.int .i64 o_o47_5_l9)⟩, ⟨.imm, 0, 0, .sc (.int .i64 o_o47_6_l9)⟩, ⟨.imm, 0, 0, .sc (.int .i64 o_o47_7_l9)⟩]⟩) rfl rfl rfl (by kernel_rfl) (ppC rfl pp0)) rfl rfl (pbPx (ob' := ⟨0, 1, false, true, false, true, [⟨.imm, 1, 0, .sc (.int .i64 x69.2.hardness)⟩, ⟨.imm, 1, 0, .sc (.int .i64 x69.2.target)⟩, ⟨.imm, 1, 0, .sc (.int .i64 x69.2.tolerance)⟩, ⟨.imm, 1, 2, .row 3 (List.map e_S_Step x69.2.menu)⟩, ⟨.sh, 1, 0, .row 3 (List.map e_S_Step x69.2.steps)⟩, ⟨.imm, 1, 0, .sc (.int .i64 x69.2.depth)⟩, ⟨.imm, 1, 0, .sc (.int .i64 x69.2.nodes)⟩, ⟨.imm, 1, 0, .sc (.int .i64 x69.2.budget)⟩]⟩) rfl rfl (by kernel_rfl) pb0) rfl rfl rfl) <| sq z41 (oAsI rfl rfl) <| nl) ?_
              refine Unw.seq ?_
              refine Go.seq ?_
              refine Go.seq ?_
              refine Go.r1 c41 rfl rfl (st1 := mk [(1, iv shade_1), (5, iv budget_5), (14, .v false [.mp 47 0 0]), (15, bv x69.1)] [(47, some ⟨0, 0, false, true, false, true, [⟨.imm, 0, 0, .sc (.int .i64 x69.2.hardness)⟩, ⟨.imm, 0, 0, .sc (.int .i64 x69.2.target)⟩, ⟨.imm, 0, 0, .sc (.int .i64 x69.2.tolerance)⟩, ⟨.imm, 0, 2, .row 3 (List.map e_S_Step x69.2.menu)⟩, ⟨.sh, 0, 0, .row 3 (List.map e_S_Step x69.2.steps)⟩, ⟨.imm, 0, 0, .sc (.int .i64 x69.2.depth)⟩, ⟨.imm, 0, 0, .sc (.int .i64 x69.2.nodes)⟩, ⟨.imm, 0, 0, .sc (.int .i64 x69.2.budget)⟩]⟩)]) (by kernel_rfl) (sq z41 (oMv rfl rfl) <| sq z41 (oNl rfl rfl rfl) <| sq z41 (oFA (r' := .mp 47 0 6) rfl fF176_6 rfl rfl) <| sq z41 (oLd (cs := [.im 0 _]) rfl tF2 rfl rfl) <| sq z41 (oMv rfl rfl) <| sq z41 (oBi rfl rfl rfl rfl) <| nl) ?_
              refine Unw.seq ?_
              by_cases hc14 : x69.2.nodes > budget_5
              · rw [if_pos hc14] at h
                refine Go.condT rfl (iDec.2 hc14) ?_
                refine Go.seq ?_
                refine Go.r0 c41 rfl rfl (sq z41 (oAsN rfl rfl eF63) <| sq z41 (oAsI rfl rfl) <| nl) ?_
                refine Unw.seq ?_
                refine Go.ret (Unw.ret ?_)
                cases h
                exact ⟨rfl, (fin_of rfl rF41 rfl (by kernel_rfl))⟩
              · rw [if_neg hc14] at h
                refine Go.condF rfl (byF iDec hc14) ?_
                refine Go.skip ?_
                refine Unw.seq ?_
                refine Go.seq ?_
                refine Go.r0 c41 rfl rfl (sq z41 (oMv rfl rfl) <| nl) ?_
                refine Unw.seq ?_
                by_cases hc15 : x69.1 = true
                · rw [if_pos hc15] at h
                  refine Go.condT rfl (Iff.rfl.2 hc15) ?_
                  refine Go.seq ?_
                  obtain ⟨x82, hx82, h⟩ := bs h
                  refine Go.r0 c41 rfl rfl (sq z41 (oBS (es := List.map e_S_Step ([] : List S_Step)) rfl sF63 rfl pt0 (flat0 rfl fun _ => rfl)) <| sq z41 (oMv rfl rfl) <| sq z41 (oNl rfl rfl rfl) <| sq z41 (oFA (r' := .mp 47 0 4) rfl fF176_4 rfl rfl) <| sq z41 (oLd (cs := [.own 47 0 4]) rfl tF63 rfl rfl) <| sq z41 (oApO (en := e_S_Step) (M := x69.2.steps) rfl hx82 rfl sF63 rfl rfl uF63 (.inl ⟨_, rfl⟩) rfl rfl rfl rfl (el_own rfl rfl) (flat0 rfl fun _ => rfl)) <| sq z41 (oAsO rfl rfl rfl rfl rfl) <| sq z41 (oAsI rfl rfl) <| nl) ?_
                  refine Unw.seq ?_
                  refine Go.ret (Unw.ret ?_)
                  cases h
                  exact ⟨rfl, (fin_of rfl rF41 rfl (by kernel_rfl))⟩
                · rw [if_neg hc15] at h
                  refine Go.condF rfl (byF Iff.rfl hc15) ?_
                  refine Go.skip ?_
                  refine Unw.blk ?_
                  refine Unw.seq ?_
                  refine Go.r0 c41 rfl rfl (sq z41 (oMv rfl rfl) <| sq z41 (oNl rfl rfl rfl) <| sq z41 (oFA (r' := .mp 47 0 5) rfl fF176_5 rfl rfl) <| sq z41 (oLd (cs := [.im 0 _]) rfl tF3 rfl rfl) <| sq z41 (oBi rfl rfl rfl rfl) <| sq z41 (oNl rfl rfl rfl) <| sq z41 (oFA (r' := .mp 47 0 5) rfl fF176_5 rfl rfl) <| sq z41 (oSt tF3 rfl rfl rfl (tkI tk0) rfl rfl rfl) <| nl) ?_
                  refine Unw.nil ?_
                  cases h
                  exact ⟨rfl, (by kernel_rfl)⟩
            · rw [if_neg hc13] at h
              refine Go.condF rfl (byF iDec hc13) ?_
              refine Go.exit ?_
              refine Unw.seqx ?_
              refine Unw.nil ?_
              cases h
              exact ⟨rfl, (by kernel_rfl)⟩
          · rintro ⟨e, st⟩ hp
            rcases o with u | r2
            · dsimp only at h
              obtain ⟨he, hst⟩ := hp
              obtain rfl : e = .exit 0 := he
              refine Unw.blkx ?_
              refine Unw.seq ?_
              refine Go.seq ?_
              refine Go.r1 c41 rfl rfl hst (sq z41 (oAsN rfl rfl eF63) <| sq z41 (oAsI rfl rfl) <| nl) ?_
              refine Unw.seq ?_
              refine Go.ret (Unw.ret ?_)
              cases h
              exact Fin_ret (fin_of rfl rF41 rfl (by kernel_rfl))
            · dsimp only at h
              obtain ⟨he, hfin⟩ := hp
              obtain rfl : e = .ret := he
              cases h
              exact Unw.ret (Fin_ret hfin)
  · rw [if_neg hc1] at h
    refine Go.condT rfl (nT (byF Iff.rfl hc1)) ?_
    refine Go.seq ?_
    refine Go.r0 c41 rfl rfl (sq z41 (oAsN rfl rfl eF63) <| sq z41 (oAsI rfl rfl) <| nl) ?_
    refine Unw.seq ?_
    refine Go.ret (Unw.ret ?_)
    cases h
    exact Fin_ret (fin_of rfl rF41 rfl (by kernel_rfl))
theorem L_impl_within {n_0 : Int} {low_1 : Int} {high_2 : Int} {r : Bool} (h : impl_within n_0 low_1 high_2 = some r) : FL Try.prog cfg 92 [.im 2 false [.sc (.int .i64 n_0)], .im 2 false [.sc (.int .i64 low_1)], .im 2 false [.sc (.int .i64 high_2)]] = some ([(false, [.im 0 (.sc (.bool r))])], []) := by
  unfold impl_within at h
  refine FL_goS (A := [(0, .v false [.im 2 (.sc (.int .i64 n_0))]), (1, .v false [.im 2 (.sc (.int .i64 low_1))]), (2, .v false [.im 2 (.sc (.int .i64 high_2))])]) (B := [(0, none), (1, none), (2, none)]) (nt := 15) rfl rfl Try.func92 rfl rfl rfl rfl ?_
  refine Go.seq ?_
  refine Go.r0 c92 rfl rfl (sq z92 (oAsI rfl rfl) <| nl) ?_
  refine Unw.seq ?_
  refine Go.seq ?_
  refine Go.rX c92 rfl rfl rfl (mk [(6, bv ((decide (n_0 ≥ low_1)) && (decide (n_0 ≤ high_2))))] []) ?_ ?_
  · by_cases hc1 : n_0 ≥ low_1
    · exact ⟨_, sq z92 (oMv rfl rfl) <| sq z92 (oMv rfl rfl) <| sq z92 (oBi rfl rfl rfl rfl) <| sq z92 (oMv rfl rfl) <| sgT z92 rfl rfl (iDec.2 hc1) (oMv rfl rfl) <| sgT z92 rfl rfl (iDec.2 hc1) (oMv rfl rfl) <| sgT z92 rfl rfl (iDec.2 hc1) (oBi rfl rfl rfl rfl) <| sq z92 (oPkT rfl rfl (iDec.2 hc1) rfl) <| sq z92 (oAsI rfl rfl) <| nl, (Eq.trans (b := (fun t_6_m1 : Bool => mk [(6, bv t_6_m1)] []) (decide (n_0 ≤ high_2))) (by kernel_rfl) (congrArg (fun t_6_m1 : Bool => mk [(6, bv t_6_m1)] []) (by first | rfl | simp [(iDec.2 hc1)])))⟩
    · exact ⟨_, sq z92 (oMv rfl rfl) <| sq z92 (oMv rfl rfl) <| sq z92 (oBi rfl rfl rfl rfl) <| sq z92 (oMv rfl rfl) <| sgF rfl rfl (byF iDec hc1) rfl <| sgF rfl rfl (byF iDec hc1) rfl <| sgF rfl rfl (byF iDec hc1) rfl <| sq z92 (oPkF rfl rfl (byF iDec hc1) rfl) <| sq z92 (oAsI rfl rfl) <| nl, (Eq.trans (b := (fun t_6_m1 : Bool => mk [(6, bv t_6_m1)] []) false) (by kernel_rfl) (congrArg (fun t_6_m1 : Bool => mk [(6, bv t_6_m1)] []) (by first | rfl | simp [(byF iDec hc1)])))⟩
  · refine Unw.seq ?_
    refine Go.ret (Unw.ret ?_)
    cases h
    exact Fin_ret (fin_of rfl rF92 rfl (by kernel_rfl))
theorem L_impl_ValidStep {x_0 : S_Step} {r : Bool} (h : impl_ValidStep x_0 = some r) : FL Try.prog cfg 206 [.im 2 true [.sc (.int .i64 x_0.Kind), .sc (.int .i64 x_0.A), .sc (.int .i64 x_0.B)]] = some ([(false, [.im 0 (.sc (.bool r))])], []) := by
  unfold impl_ValidStep at h
  refine FL_goS (A := [(0, .v true [.im 2 (.sc (.int .i64 x_0.Kind)), .im 2 (.sc (.int .i64 x_0.A)), .im 2 (.sc (.int .i64 x_0.B))])]) (B := [(0, none)]) (nt := 35) rfl rfl Try.func206 rfl rfl rfl rfl ?_
  refine Go.seq ?_
  refine Go.r0 c206 rfl rfl (sq z206 (oBx rfl tF178 rfl (tkI (tkI (tkI tk0)))) <| sq z206 (oAsI rfl rfl) <| nl) ?_
  refine Unw.seq ?_
  refine Go.seq ?_
  refine Go.seq ?_
  refine Go.r0 c206 rfl rfl (sq z206 (oFA (r' := .mp 1 0 0) rfl fF178_0 rfl rfl) <| sq z206 (oLd (cs := [.im 0 _]) rfl tF2 rfl rfl) <| nl) ?_
  refine Unw.seq ?_
  refine Go.block ?_
  refine Go.seq ?_
  refine Go.r0 c206 rfl rfl (sq z206 (oBi rfl rfl rfl rfl) <| sq z206 (oAsI rfl rfl) <| nl) ?_
  refine Unw.seq ?_
  by_cases hc1 : x_0.Kind = 1
  · rw [if_pos hc1] at h
    refine Go.condT rfl (iEq.2 hc1) ?_
    refine Go.seq ?_
    obtain ⟨x9, hx9, h⟩ := bs h
    obtain ⟨t_2_m3, hm3, h⟩ := bs h
    refine Go.rX c206 rfl rfl rfl (mk [(2, bv t_2_m3)] []) ?_ ?_
    · by_cases hc2 : x9 = true
      · rw [if_pos hc2] at hm3
        obtain ⟨x13, hx13, hm3⟩ := bs hm3
        cases hm3
        exact ⟨_, sq z206 (oFA (r' := .mp 1 0 1) rfl fF178_1 rfl rfl) <| sq z206 (oLd (cs := [.im 0 _]) rfl tF2 rfl rfl) <| sq z206 (oCa (xs := [.v false [.im 0 _], .v false [.im 0 _], .v false [.im 0 _]]) (vs := [(false, [.im 0 _])]) (v := .v false [.im 0 _]) (L_impl_within hx9) (.inl rfl) rfl kF92_2_2_2 rfl (ppC rfl (ppC rfl (ppC rfl pp0))) rfl rfl pb0 rfl rfl rfl) <| sq z206 (oMv rfl rfl) <| sgT z206 rfl rfl (Iff.rfl.2 hc2) (oFA (r' := .mp 1 0 2) rfl fF178_2 rfl rfl) <| sgT z206 rfl rfl (Iff.rfl.2 hc2) (oLd (cs := [.im 0 _]) rfl tF2 rfl rfl) <| sgT z206 rfl rfl (Iff.rfl.2 hc2) (oCa (xs := [.v false [.im 0 _], .v false [.im 0 _], .v false [.im 0 _]]) (vs := [(false, [.im 0 _])]) (v := .v false [.im 0 _]) (L_impl_within hx13) (.inl rfl) rfl kF92_2_2_2 rfl (ppC rfl (ppC rfl (ppC rfl pp0))) rfl rfl pb0 rfl rfl rfl) <| sq z206 (oPkT rfl rfl (Iff.rfl.2 hc2) rfl) <| sq z206 (oAsI rfl rfl) <| nl, (by kernel_rfl)⟩
      · rw [if_neg hc2] at hm3
        cases hm3
        exact ⟨_, sq z206 (oFA (r' := .mp 1 0 1) rfl fF178_1 rfl rfl) <| sq z206 (oLd (cs := [.im 0 _]) rfl tF2 rfl rfl) <| sq z206 (oCa (xs := [.v false [.im 0 _], .v false [.im 0 _], .v false [.im 0 _]]) (vs := [(false, [.im 0 _])]) (v := .v false [.im 0 _]) (L_impl_within hx9) (.inl rfl) rfl kF92_2_2_2 rfl (ppC rfl (ppC rfl (ppC rfl pp0))) rfl rfl pb0 rfl rfl rfl) <| sq z206 (oMv rfl rfl) <| sgF rfl rfl (byF Iff.rfl hc2) rfl <| sgF rfl rfl (byF Iff.rfl hc2) rfl <| sgF rfl rfl (byF Iff.rfl hc2) rfl <| sq z206 (oPkF rfl rfl (byF Iff.rfl hc2) rfl) <| sq z206 (oAsI rfl rfl) <| nl, (by kernel_rfl)⟩
    · refine Unw.seq ?_
      refine Go.ret (Unw.ret ?_)
      cases h
      exact Fin_ret (fin_of rfl rF206 rfl (by kernel_rfl))
  · rw [if_neg hc1] at h
    refine Go.condF rfl (byF iEq hc1) ?_
    refine Go.seq ?_
    refine Go.r0 c206 rfl rfl (sq z206 (oBi rfl rfl rfl rfl) <| sq z206 (oAsI rfl rfl) <| nl) ?_
    refine Unw.seq ?_
    by_cases hc4 : x_0.Kind = 2
    · rw [if_pos hc4] at h
      refine Go.condT rfl (iEq.2 hc4) ?_
      refine Go.seq ?_
      obtain ⟨x19, hx19, h⟩ := bs h
      obtain ⟨t_2_m5, hm6, h⟩ := bs h
      refine Go.rX c206 rfl rfl rfl (mk [(2, bv t_2_m5)] []) ?_ ?_
      · by_cases hc5 : x19 = true
        · rw [if_pos hc5] at hm6
          obtain ⟨x23, hx23, hm6⟩ := bs hm6
          cases hm6
          exact ⟨_, sq z206 (oFA (r' := .mp 1 0 1) rfl fF178_1 rfl rfl) <| sq z206 (oLd (cs := [.im 0 _]) rfl tF2 rfl rfl) <| sq z206 (oCa (xs := [.v false [.im 0 _], .v false [.im 0 _], .v false [.im 0 _]]) (vs := [(false, [.im 0 _])]) (v := .v false [.im 0 _]) (L_impl_within hx19) (.inl rfl) rfl kF92_2_2_2 rfl (ppC rfl (ppC rfl (ppC rfl pp0))) rfl rfl pb0 rfl rfl rfl) <| sq z206 (oMv rfl rfl) <| sgT z206 rfl rfl (Iff.rfl.2 hc5) (oFA (r' := .mp 1 0 2) rfl fF178_2 rfl rfl) <| sgT z206 rfl rfl (Iff.rfl.2 hc5) (oLd (cs := [.im 0 _]) rfl tF2 rfl rfl) <| sgT z206 rfl rfl (Iff.rfl.2 hc5) (oCa (xs := [.v false [.im 0 _], .v false [.im 0 _], .v false [.im 0 _]]) (vs := [(false, [.im 0 _])]) (v := .v false [.im 0 _]) (L_impl_within hx23) (.inl rfl) rfl kF92_2_2_2 rfl (ppC rfl (ppC rfl (ppC rfl pp0))) rfl rfl pb0 rfl rfl rfl) <| sq z206 (oPkT rfl rfl (Iff.rfl.2 hc5) rfl) <| sq z206 (oAsI rfl rfl) <| nl, (by kernel_rfl)⟩
        · rw [if_neg hc5] at hm6
          cases hm6
          exact ⟨_, sq z206 (oFA (r' := .mp 1 0 1) rfl fF178_1 rfl rfl) <| sq z206 (oLd (cs := [.im 0 _]) rfl tF2 rfl rfl) <| sq z206 (oCa (xs := [.v false [.im 0 _], .v false [.im 0 _], .v false [.im 0 _]]) (vs := [(false, [.im 0 _])]) (v := .v false [.im 0 _]) (L_impl_within hx19) (.inl rfl) rfl kF92_2_2_2 rfl (ppC rfl (ppC rfl (ppC rfl pp0))) rfl rfl pb0 rfl rfl rfl) <| sq z206 (oMv rfl rfl) <| sgF rfl rfl (byF Iff.rfl hc5) rfl <| sgF rfl rfl (byF Iff.rfl hc5) rfl <| sgF rfl rfl (byF Iff.rfl hc5) rfl <| sq z206 (oPkF rfl rfl (byF Iff.rfl hc5) rfl) <| sq z206 (oAsI rfl rfl) <| nl, (by kernel_rfl)⟩
      · refine Unw.seq ?_
        refine Go.ret (Unw.ret ?_)
        cases h
        exact Fin_ret (fin_of rfl rF206 rfl (by kernel_rfl))
    · rw [if_neg hc4] at h
      refine Go.condF rfl (byF iEq hc4) ?_
      refine Go.seq ?_
      refine Go.r0 c206 rfl rfl (sq z206 (oBi rfl rfl rfl rfl) <| sq z206 (oAsI rfl rfl) <| nl) ?_
      refine Unw.seq ?_
      by_cases hc7 : x_0.Kind = 3
      · rw [if_pos hc7] at h
        refine Go.condT rfl (iEq.2 hc7) ?_
        refine Go.seq ?_
        obtain ⟨x29, hx29, h⟩ := bs h
        refine Go.rX c206 rfl rfl rfl (mk [(2, bv (x29 && (x_0.B == 0)))] []) ?_ ?_
        · by_cases hc8 : x29 = true
          · exact ⟨_, sq z206 (oFA (r' := .mp 1 0 1) rfl fF178_1 rfl rfl) <| sq z206 (oLd (cs := [.im 0 _]) rfl tF2 rfl rfl) <| sq z206 (oCa (xs := [.v false [.im 0 _], .v false [.im 0 _], .v false [.im 0 _]]) (vs := [(false, [.im 0 _])]) (v := .v false [.im 0 _]) (L_impl_within hx29) (.inl rfl) rfl kF92_2_2_2 rfl (ppC rfl (ppC rfl (ppC rfl pp0))) rfl rfl pb0 rfl rfl rfl) <| sq z206 (oMv rfl rfl) <| sgT z206 rfl rfl (Iff.rfl.2 hc8) (oFA (r' := .mp 1 0 2) rfl fF178_2 rfl rfl) <| sgT z206 rfl rfl (Iff.rfl.2 hc8) (oLd (cs := [.im 0 _]) rfl tF2 rfl rfl) <| sgT z206 rfl rfl (Iff.rfl.2 hc8) (oBi rfl rfl rfl rfl) <| sq z206 (oPkT rfl rfl (Iff.rfl.2 hc8) rfl) <| sq z206 (oAsI rfl rfl) <| nl, (Eq.trans (b := (fun t_2_m7 : Bool => mk [(2, bv t_2_m7)] []) (x_0.B == 0)) (by kernel_rfl) (congrArg (fun t_2_m7 : Bool => mk [(2, bv t_2_m7)] []) (by first | rfl | simp [(Iff.rfl.2 hc8)])))⟩
          · exact ⟨_, sq z206 (oFA (r' := .mp 1 0 1) rfl fF178_1 rfl rfl) <| sq z206 (oLd (cs := [.im 0 _]) rfl tF2 rfl rfl) <| sq z206 (oCa (xs := [.v false [.im 0 _], .v false [.im 0 _], .v false [.im 0 _]]) (vs := [(false, [.im 0 _])]) (v := .v false [.im 0 _]) (L_impl_within hx29) (.inl rfl) rfl kF92_2_2_2 rfl (ppC rfl (ppC rfl (ppC rfl pp0))) rfl rfl pb0 rfl rfl rfl) <| sq z206 (oMv rfl rfl) <| sgF rfl rfl (byF Iff.rfl hc8) rfl <| sgF rfl rfl (byF Iff.rfl hc8) rfl <| sgF rfl rfl (byF Iff.rfl hc8) rfl <| sq z206 (oPkF rfl rfl (byF Iff.rfl hc8) rfl) <| sq z206 (oAsI rfl rfl) <| nl, (Eq.trans (b := (fun t_2_m7 : Bool => mk [(2, bv t_2_m7)] []) false) (by kernel_rfl) (congrArg (fun t_2_m7 : Bool => mk [(2, bv t_2_m7)] []) (by first | rfl | simp [(byF Iff.rfl hc8)])))⟩
        · refine Unw.seq ?_
          refine Go.ret (Unw.ret ?_)
          cases h
          exact Fin_ret (fin_of rfl rF206 rfl (by kernel_rfl))
      · rw [if_neg hc7] at h
        refine Go.condF rfl (byF iEq hc7) ?_
        refine Go.skip ?_
        refine Unw.blk ?_
        refine Unw.seq ?_
        refine Go.seq ?_
        refine Go.r0 c206 rfl rfl (sq z206 (oAsI rfl rfl) <| nl) ?_
        refine Unw.seq ?_
        refine Go.ret (Unw.ret ?_)
        cases h
        exact Fin_ret (fin_of rfl rF206 rfl (by kernel_rfl))
theorem L_impl_validSteps_c1 {x_0 : S_Step} {r : Bool} (h : impl_validSteps_c1 x_0 = some r) : FL Try.prog cfg 205 [.im 2 true [.sc (.int .i64 x_0.Kind), .sc (.int .i64 x_0.A), .sc (.int .i64 x_0.B)]] = some ([(false, [.im 0 (.sc (.bool r))])], []) := by
  unfold impl_validSteps_c1 at h
  refine FL_goS (A := [(0, .v true [.im 2 (.sc (.int .i64 x_0.Kind)), .im 2 (.sc (.int .i64 x_0.A)), .im 2 (.sc (.int .i64 x_0.B))])]) (B := [(0, none)]) (nt := 6) rfl rfl Try.func205 rfl rfl rfl rfl ?_
  refine Go.seq ?_
  refine Go.r0 c205 rfl rfl (sq z205 (oBx rfl tF178 rfl (tkI (tkI (tkI tk0)))) <| sq z205 (oAsI rfl rfl) <| nl) ?_
  refine Unw.seq ?_
  refine Go.seq ?_
  obtain ⟨x4, hx4, h⟩ := bs h
  refine Go.r0 c205 rfl rfl (sq z205 (oLd (cs := [.im 0 _, .im 0 _, .im 0 _]) rfl tF178 rfl rfl) <| sq z205 (oCa (xs := [.v true [.im 0 _, .im 0 _, .im 0 _]]) (vs := [(false, [.im 0 _])]) (v := .v false [.im 0 _]) (L_impl_ValidStep hx4) (.inl rfl) rfl kF206_178 rfl (ppC rfl pp0) rfl rfl pb0 rfl rfl rfl) <| sq z205 (oUn rfl rfl rfl) <| sq z205 (oAsI rfl rfl) <| nl) ?_
  refine Unw.seq ?_
  refine Go.ret (Unw.ret ?_)
  cases h
  exact Fin_ret (fin_of rfl rF205 rfl (by kernel_rfl))
theorem L_slices_IndexFunc_impl_Step_impl_Step_205 {s_0 : (List S_Step)} {r : Int} (h : slices_IndexFunc_impl_Step_impl_Step s_0 (fun b0 => impl_validSteps_c1 b0) = some r) : FL Try.prog cfg 259 [.im 2 false [.row 3 (List.map e_S_Step s_0)], .im 2 false [.clo 205 []]] = some ([(false, [.im 0 (.sc (.int .i64 r))])], []) := by
  unfold slices_IndexFunc_impl_Step_impl_Step at h
  refine FL_goS (A := [(0, .v false [.im 2 (.row 3 (List.map e_S_Step s_0))]), (1, .v false [.im 2 (.clo 205 [])])]) (B := [(0, none), (1, none)]) (nt := 19) rfl rfl Try.func259 rfl rfl rfl rfl ?_
  refine Go.seq ?_
  refine Go.r0 c259 rfl rfl (sq z259 (oAsI rfl rfl) <| nl) ?_
  refine Unw.seq ?_
  refine Go.seq ?_
  refine Go.seq ?_
  refine Go.r0 c259 rfl rfl (sq z259 (oMv rfl rfl) <| sq z259 (oLnI rfl rfl uF63 rfl) <| sq z259 (oMv rfl rfl) <| nl) ?_
  refine Unw.seq ?_
  refine Go.block ?_
  obtain ⟨o, hl, h⟩ := bs h
  refine Go.lp c259 rfl _ (fun (t_8_l2 : Int) => mk [(0, .v false [.im 2 (.row 3 (List.map e_S_Step s_0))]), (1, .v false [.im 2 (.clo 205 [])]), (7, iv (s_0.length : Int)), (8, iv t_8_l2)] []) (fun (o : (Unit ⊕ Int)) (p : Ex × St) => match o with | (.inl _) => p.1 = .exit 0 ∧ p.2.norm ([], []) = mk [] [] | (.inr r2) => p.1 = .ret ∧ fin Try.prog cfg 259 Try.f259 [.im 2 false [.row 3 (List.map e_S_Step s_0)], .im 2 false [.clo 205 []]] p.2 = some ([(false, [.im 0 (.sc (.int .i64 r2))])], [])) hl (by kernel_rfl) ?_ ?_ ?_
  · intro o p hp e
    rcases o with u | r2 <;> exact nomatch (hp.1.symm.trans e)
  · rintro t_8_l2 o h
    unfold slices_IndexFunc_impl_Step_impl_Step_l2 at h
    refine Go.seq ?_
    refine Go.r0 c259 rfl rfl (sq z259 (oBi rfl rfl rfl rfl) <| nl) ?_
    refine Unw.seq ?_
    refine Go.seq ?_
    by_cases hc5 : t_8_l2 < (s_0.length : Int)
    · rw [if_pos hc5] at h
      refine Go.condT rfl (iDec.2 hc5) ?_
      refine Go.skip ?_
      refine Unw.seq ?_
      refine Go.seq ?_
      refine Go.block ?_
      refine Go.seq ?_
      refine Go.r0 c259 rfl rfl (sq z259 (oMv rfl rfl) <| sq z259 (oAsI rfl rfl) <| nl) ?_
      refine Unw.seq ?_
      refine Go.seq ?_
      obtain ⟨x14, hx14, h⟩ := bs h
      obtain ⟨x16, hx16, h⟩ := bs h
      refine Go.r0 c259 rfl rfl (sq z259 (oMv rfl rfl) <| sq z259 (oMv rfl rfl) <| sq z259 (oMv rfl rfl) <| sq z259 (oIAI rfl hx14 sF63 rfl rfl) <| sq z259 (oLd (cs := [.im 2 _, .im 2 _, .im 2 _]) rfl tF178 rfl rfl) <| sq z259 (oCa (xs := [.v true [.im 2 _, .im 2 _, .im 2 _]]) (vs := [(false, [.im 0 _])]) (v := .v false [.im 0 _]) (L_impl_validSteps_c1 hx16) (.inr ⟨_, _, rfl, rfl⟩) rfl kF205_178 rfl (ppC rfl pp0) rfl rfl pb0 rfl rfl rfl) <| nl) ?_
      refine Unw.seq ?_
      by_cases hc6 : x16 = true
      · rw [if_pos hc6] at h
        refine Go.condT rfl (Iff.rfl.2 hc6) ?_
        refine Go.seq ?_
        refine Go.r0 c259 rfl rfl (sq z259 (oMv rfl rfl) <| sq z259 (oAsI rfl rfl) <| nl) ?_
        refine Unw.seq ?_
        refine Go.ret (Unw.ret ?_)
        cases h
        exact ⟨rfl, (fin_of rfl rF259 rfl (by kernel_rfl))⟩
      · rw [if_neg hc6] at h
        refine Go.condF rfl (byF Iff.rfl hc6) ?_
        refine Go.skip ?_
        refine Unw.blk ?_
        refine Unw.seq ?_
        refine Go.r0 c259 rfl rfl (sq z259 (oBi rfl rfl rfl rfl) <| sq z259 (oMv rfl rfl) <| nl) ?_
        refine Unw.nil ?_
        cases h
        exact ⟨rfl, (by kernel_rfl)⟩
    · rw [if_neg hc5] at h
      refine Go.condF rfl (byF iDec hc5) ?_
      refine Go.exit ?_
      refine Unw.seqx ?_
      refine Unw.nil ?_
      cases h
      exact ⟨rfl, (by kernel_rfl)⟩
  · rintro ⟨e, st⟩ hp
    rcases o with u | r2
    · dsimp only at h
      obtain ⟨he, hst⟩ := hp
      obtain rfl : e = .exit 0 := he
      refine Unw.blkx ?_
      refine Unw.seq ?_
      refine Go.seq ?_
      refine Go.r1 c259 rfl rfl hst (sq z259 (oAsI rfl rfl) <| nl) ?_
      refine Unw.seq ?_
      refine Go.ret (Unw.ret ?_)
      cases h
      exact Fin_ret (fin_of rfl rF259 rfl (by kernel_rfl))
    · dsimp only at h
      obtain ⟨he, hfin⟩ := hp
      obtain rfl : e = .ret := he
      cases h
      exact Unw.ret (Fin_ret hfin)
theorem L_slices_ContainsFunc_impl_Step_impl_Step_205 {s_0 : (List S_Step)} {r : Bool} (h : slices_ContainsFunc_impl_Step_impl_Step s_0 (fun b0 => impl_validSteps_c1 b0) = some r) : FL Try.prog cfg 204 [.im 2 false [.row 3 (List.map e_S_Step s_0)], .im 2 false [.clo 205 []]] = some ([(false, [.im 0 (.sc (.bool r))])], []) := by
  unfold slices_ContainsFunc_impl_Step_impl_Step at h
  refine FL_goS (A := [(0, .v false [.im 2 (.row 3 (List.map e_S_Step s_0))]), (1, .v false [.im 2 (.clo 205 [])])]) (B := [(0, none), (1, none)]) (nt := 9) rfl rfl Try.func204 rfl rfl rfl rfl ?_
  refine Go.seq ?_
  refine Go.r0 c204 rfl rfl (sq z204 (oAsI rfl rfl) <| nl) ?_
  refine Unw.seq ?_
  refine Go.seq ?_
  obtain ⟨x7, hx7, h⟩ := bs h
  refine Go.r0 c204 rfl rfl (sq z204 (oMv rfl rfl) <| sq z204 (oMv rfl rfl) <| sq z204 (oCa (xs := [.v false [.im 2 _], .v false [.im 2 _]]) (vs := [(false, [.im 0 _])]) (v := .v false [.im 0 _]) (L_slices_IndexFunc_impl_Step_impl_Step_205 hx7) (.inl rfl) rfl kF259_63_302 rfl (ppC rfl (ppC rfl pp0)) rfl rfl pb0 rfl rfl rfl) <| sq z204 (oBi rfl rfl rfl rfl) <| sq z204 (oAsI rfl rfl) <| nl) ?_
  refine Unw.seq ?_
  refine Go.ret (Unw.ret ?_)
  cases h
  exact Fin_ret (fin_of rfl rF204 rfl (by kernel_rfl))
theorem L_impl_validSteps {list_0 : (List S_Step)} {r : Bool} (h : impl_validSteps list_0 = some r) : FL Try.prog cfg 122 [.im 2 false [.row 3 (List.map e_S_Step list_0)]] = some ([(false, [.im 0 (.sc (.bool r))])], []) := by
  unfold impl_validSteps at h
  refine FL_goS (A := [(0, .v false [.im 2 (.row 3 (List.map e_S_Step list_0))])]) (B := [(0, none)]) (nt := 11) rfl rfl Try.func122 rfl rfl rfl rfl ?_
  refine Go.seq ?_
  refine Go.r0 c122 rfl rfl (sq z122 (oAsI rfl rfl) <| nl) ?_
  refine Unw.seq ?_
  refine Go.seq ?_
  obtain ⟨t_2_m1, hm2, h⟩ := bs h
  refine Go.rX c122 rfl rfl rfl (mk [(2, bv t_2_m1)] []) ?_ ?_
  · by_cases hc1 : (list_0.length : Int) ≤ 8
    · rw [if_pos hc1] at hm2
      obtain ⟨x8, hx8, hm2⟩ := bs hm2
      cases hm2
      exact ⟨_, sq z122 (oMv rfl rfl) <| sq z122 (oLnI rfl rfl uF63 rfl) <| sq z122 (oBi rfl rfl rfl rfl) <| sq z122 (oMv rfl rfl) <| sgT z122 rfl rfl (iDec.2 hc1) (oMv rfl rfl) <| sgT z122 rfl rfl (iDec.2 hc1) (oCa (xs := [.v false [.im 2 _], .fn 205 []]) (vs := [(false, [.im 0 _])]) (v := .v false [.im 0 _]) (L_slices_ContainsFunc_impl_Step_impl_Step_205 hx8) (.inl rfl) rfl kF204_63_302 rfl (ppC rfl (ppC rfl pp0)) rfl rfl pb0 rfl rfl rfl) <| sgT z122 rfl rfl (iDec.2 hc1) (oUn rfl rfl rfl) <| sq z122 (oPkT rfl rfl (iDec.2 hc1) rfl) <| sq z122 (oAsI rfl rfl) <| nl, (by kernel_rfl)⟩
    · rw [if_neg hc1] at hm2
      cases hm2
      exact ⟨_, sq z122 (oMv rfl rfl) <| sq z122 (oLnI rfl rfl uF63 rfl) <| sq z122 (oBi rfl rfl rfl rfl) <| sq z122 (oMv rfl rfl) <| sgF rfl rfl (byF iDec hc1) rfl <| sgF rfl rfl (byF iDec hc1) rfl <| sgF rfl rfl (byF iDec hc1) rfl <| sq z122 (oPkF rfl rfl (byF iDec hc1) rfl) <| sq z122 (oAsI rfl rfl) <| nl, (by kernel_rfl)⟩
  · refine Unw.seq ?_
    refine Go.ret (Unw.ret ?_)
    cases h
    exact Fin_ret (fin_of rfl rF122 rfl (by kernel_rfl))
theorem L_impl_SpeciesData {name_0 : ByteArray} {r : (Int × Int × Int × Int)} (h : impl_SpeciesData name_0 = some r) : FL Try.prog cfg 260 [.im 2 false [.sc (.string name_0)]] = some ([(false, [.im 0 (.sc (.int .i64 r.1))]), (false, [.im 0 (.sc (.int .i64 r.2.1))]), (false, [.im 0 (.sc (.int .i64 r.2.2.1))]), (false, [.im 0 (.sc (.int .i64 r.2.2.2))])], []) := by
  unfold impl_SpeciesData at h
  refine FL_goS (A := [(0, .v false [.im 2 (.sc (.string name_0))])]) (B := [(0, none)]) (nt := 27) rfl rfl Try.func260 rfl rfl rfl rfl ?_
  refine Go.seq ?_
  refine Go.r0 c260 rfl rfl (sq z260 (oAsI rfl rfl) <| sq z260 (oAsI rfl rfl) <| sq z260 (oAsI rfl rfl) <| sq z260 (oAsI rfl rfl) <| nl) ?_
  refine Unw.seq ?_
  refine Go.seq ?_
  refine Go.seq ?_
  refine Go.r0 c260 rfl rfl (sq z260 (oMv rfl rfl) <| nl) ?_
  refine Unw.seq ?_
  refine Go.block ?_
  refine Go.seq ?_
  refine Go.r0 c260 rfl rfl (sq z260 (oBi rfl rfl rfl rfl) <| sq z260 (oAsI rfl rfl) <| nl) ?_
  refine Unw.seq ?_
  by_cases hc1 : name_0 = (⟨#[97, 115, 104]⟩ : ByteArray)
  · rw [if_pos hc1] at h
    refine Go.condT rfl (iStr.2 hc1) ?_
    refine Go.seq ?_
    refine Go.r0 c260 rfl rfl (sq z260 (oAsI rfl rfl) <| sq z260 (oAsI rfl rfl) <| sq z260 (oAsI rfl rfl) <| sq z260 (oAsI rfl rfl) <| nl) ?_
    refine Unw.seq ?_
    refine Go.ret (Unw.ret ?_)
    cases h
    exact Fin_ret (fin_of rfl rF260 rfl (by kernel_rfl))
  · rw [if_neg hc1] at h
    refine Go.condF rfl (byF iStr hc1) ?_
    refine Go.seq ?_
    refine Go.r0 c260 rfl rfl (sq z260 (oBi rfl rfl rfl rfl) <| sq z260 (oAsI rfl rfl) <| nl) ?_
    refine Unw.seq ?_
    by_cases hc2 : name_0 = (⟨#[98, 101, 101, 99, 104]⟩ : ByteArray)
    · rw [if_pos hc2] at h
      refine Go.condT rfl (iStr.2 hc2) ?_
      refine Go.seq ?_
      refine Go.r0 c260 rfl rfl (sq z260 (oAsI rfl rfl) <| sq z260 (oAsI rfl rfl) <| sq z260 (oAsI rfl rfl) <| sq z260 (oAsI rfl rfl) <| nl) ?_
      refine Unw.seq ?_
      refine Go.ret (Unw.ret ?_)
      cases h
      exact Fin_ret (fin_of rfl rF260 rfl (by kernel_rfl))
    · rw [if_neg hc2] at h
      refine Go.condF rfl (byF iStr hc2) ?_
      refine Go.seq ?_
      refine Go.r0 c260 rfl rfl (sq z260 (oBi rfl rfl rfl rfl) <| sq z260 (oAsI rfl rfl) <| nl) ?_
      refine Unw.seq ?_
      by_cases hc3 : name_0 = (⟨#[98, 105, 114, 99, 104]⟩ : ByteArray)
      · rw [if_pos hc3] at h
        refine Go.condT rfl (iStr.2 hc3) ?_
        refine Go.seq ?_
        refine Go.r0 c260 rfl rfl (sq z260 (oAsI rfl rfl) <| sq z260 (oAsI rfl rfl) <| sq z260 (oAsI rfl rfl) <| sq z260 (oAsI rfl rfl) <| nl) ?_
        refine Unw.seq ?_
        refine Go.ret (Unw.ret ?_)
        cases h
        exact Fin_ret (fin_of rfl rF260 rfl (by kernel_rfl))
      · rw [if_neg hc3] at h
        refine Go.condF rfl (byF iStr hc3) ?_
        refine Go.seq ?_
        refine Go.r0 c260 rfl rfl (sq z260 (oBi rfl rfl rfl rfl) <| sq z260 (oAsI rfl rfl) <| nl) ?_
        refine Unw.seq ?_
        by_cases hc4 : name_0 = (⟨#[99, 104, 101, 114, 114, 121]⟩ : ByteArray)
        · rw [if_pos hc4] at h
          refine Go.condT rfl (iStr.2 hc4) ?_
          refine Go.seq ?_
          refine Go.r0 c260 rfl rfl (sq z260 (oAsI rfl rfl) <| sq z260 (oAsI rfl rfl) <| sq z260 (oAsI rfl rfl) <| sq z260 (oAsI rfl rfl) <| nl) ?_
          refine Unw.seq ?_
          refine Go.ret (Unw.ret ?_)
          cases h
          exact Fin_ret (fin_of rfl rF260 rfl (by kernel_rfl))
        · rw [if_neg hc4] at h
          refine Go.condF rfl (byF iStr hc4) ?_
          refine Go.seq ?_
          refine Go.r0 c260 rfl rfl (sq z260 (oBi rfl rfl rfl rfl) <| sq z260 (oAsI rfl rfl) <| nl) ?_
          refine Unw.seq ?_
          by_cases hc5 : name_0 = (⟨#[101, 98, 111, 110, 121]⟩ : ByteArray)
          · rw [if_pos hc5] at h
            refine Go.condT rfl (iStr.2 hc5) ?_
            refine Go.seq ?_
            refine Go.r0 c260 rfl rfl (sq z260 (oAsI rfl rfl) <| sq z260 (oAsI rfl rfl) <| sq z260 (oAsI rfl rfl) <| sq z260 (oAsI rfl rfl) <| nl) ?_
            refine Unw.seq ?_
            refine Go.ret (Unw.ret ?_)
            cases h
            exact Fin_ret (fin_of rfl rF260 rfl (by kernel_rfl))
          · rw [if_neg hc5] at h
            refine Go.condF rfl (byF iStr hc5) ?_
            refine Go.seq ?_
            refine Go.r0 c260 rfl rfl (sq z260 (oBi rfl rfl rfl rfl) <| sq z260 (oAsI rfl rfl) <| nl) ?_
            refine Unw.seq ?_
            by_cases hc6 : name_0 = (⟨#[104, 111, 108, 108, 121]⟩ : ByteArray)
            · rw [if_pos hc6] at h
              refine Go.condT rfl (iStr.2 hc6) ?_
              refine Go.seq ?_
              refine Go.r0 c260 rfl rfl (sq z260 (oAsI rfl rfl) <| sq z260 (oAsI rfl rfl) <| sq z260 (oAsI rfl rfl) <| sq z260 (oAsI rfl rfl) <| nl) ?_
              refine Unw.seq ?_
              refine Go.ret (Unw.ret ?_)
              cases h
              exact Fin_ret (fin_of rfl rF260 rfl (by kernel_rfl))
            · rw [if_neg hc6] at h
              refine Go.condF rfl (byF iStr hc6) ?_
              refine Go.seq ?_
              refine Go.r0 c260 rfl rfl (sq z260 (oBi rfl rfl rfl rfl) <| sq z260 (oAsI rfl rfl) <| nl) ?_
              refine Unw.seq ?_
              by_cases hc7 : name_0 = (⟨#[109, 97, 112, 108, 101]⟩ : ByteArray)
              · rw [if_pos hc7] at h
                refine Go.condT rfl (iStr.2 hc7) ?_
                refine Go.seq ?_
                refine Go.r0 c260 rfl rfl (sq z260 (oAsI rfl rfl) <| sq z260 (oAsI rfl rfl) <| sq z260 (oAsI rfl rfl) <| sq z260 (oAsI rfl rfl) <| nl) ?_
                refine Unw.seq ?_
                refine Go.ret (Unw.ret ?_)
                cases h
                exact Fin_ret (fin_of rfl rF260 rfl (by kernel_rfl))
              · rw [if_neg hc7] at h
                refine Go.condF rfl (byF iStr hc7) ?_
                refine Go.seq ?_
                refine Go.r0 c260 rfl rfl (sq z260 (oBi rfl rfl rfl rfl) <| sq z260 (oAsI rfl rfl) <| nl) ?_
                refine Unw.seq ?_
                by_cases hc8 : name_0 = (⟨#[111, 97, 107]⟩ : ByteArray)
                · rw [if_pos hc8] at h
                  refine Go.condT rfl (iStr.2 hc8) ?_
                  refine Go.seq ?_
                  refine Go.r0 c260 rfl rfl (sq z260 (oAsI rfl rfl) <| sq z260 (oAsI rfl rfl) <| sq z260 (oAsI rfl rfl) <| sq z260 (oAsI rfl rfl) <| nl) ?_
                  refine Unw.seq ?_
                  refine Go.ret (Unw.ret ?_)
                  cases h
                  exact Fin_ret (fin_of rfl rF260 rfl (by kernel_rfl))
                · rw [if_neg hc8] at h
                  refine Go.condF rfl (byF iStr hc8) ?_
                  refine Go.seq ?_
                  refine Go.r0 c260 rfl rfl (sq z260 (oBi rfl rfl rfl rfl) <| sq z260 (oAsI rfl rfl) <| nl) ?_
                  refine Unw.seq ?_
                  by_cases hc9 : name_0 = (⟨#[114, 111, 115, 101, 119, 111, 111, 100]⟩ : ByteArray)
                  · rw [if_pos hc9] at h
                    refine Go.condT rfl (iStr.2 hc9) ?_
                    refine Go.seq ?_
                    refine Go.r0 c260 rfl rfl (sq z260 (oAsI rfl rfl) <| sq z260 (oAsI rfl rfl) <| sq z260 (oAsI rfl rfl) <| sq z260 (oAsI rfl rfl) <| nl) ?_
                    refine Unw.seq ?_
                    refine Go.ret (Unw.ret ?_)
                    cases h
                    exact Fin_ret (fin_of rfl rF260 rfl (by kernel_rfl))
                  · rw [if_neg hc9] at h
                    refine Go.condF rfl (byF iStr hc9) ?_
                    refine Go.seq ?_
                    refine Go.r0 c260 rfl rfl (sq z260 (oBi rfl rfl rfl rfl) <| sq z260 (oAsI rfl rfl) <| nl) ?_
                    refine Unw.seq ?_
                    by_cases hc10 : name_0 = (⟨#[119, 97, 108, 110, 117, 116]⟩ : ByteArray)
                    · rw [if_pos hc10] at h
                      refine Go.condT rfl (iStr.2 hc10) ?_
                      refine Go.seq ?_
                      refine Go.r0 c260 rfl rfl (sq z260 (oAsI rfl rfl) <| sq z260 (oAsI rfl rfl) <| sq z260 (oAsI rfl rfl) <| sq z260 (oAsI rfl rfl) <| nl) ?_
                      refine Unw.seq ?_
                      refine Go.ret (Unw.ret ?_)
                      cases h
                      exact Fin_ret (fin_of rfl rF260 rfl (by kernel_rfl))
                    · rw [if_neg hc10] at h
                      refine Go.condF rfl (byF iStr hc10) ?_
                      refine Go.skip ?_
                      refine Unw.blk ?_
                      refine Unw.seq ?_
                      refine Go.seq ?_
                      refine Go.r0 c260 rfl rfl (sq z260 (oAsI rfl rfl) <| sq z260 (oAsI rfl rfl) <| sq z260 (oAsI rfl rfl) <| sq z260 (oAsI rfl rfl) <| nl) ?_
                      refine Unw.seq ?_
                      refine Go.ret (Unw.ret ?_)
                      cases h
                      exact Fin_ret (fin_of rfl rF260 rfl (by kernel_rfl))
theorem L_impl_speciesShade {name_0 : ByteArray} {r : (Int × Bool)} (h : impl_speciesShade name_0 = some r) : FL Try.prog cfg 207 [.im 2 false [.sc (.string name_0)]] = some ([(false, [.im 0 (.sc (.int .i64 r.1))]), (false, [.im 0 (.sc (.bool r.2))])], []) := by
  unfold impl_speciesShade at h
  refine FL_goS (A := [(0, .v false [.im 2 (.sc (.string name_0))])]) (B := [(0, none)]) (nt := 18) rfl rfl Try.func207 rfl rfl rfl rfl ?_
  refine Go.seq ?_
  refine Go.r0 c207 rfl rfl (sq z207 (oAsI rfl rfl) <| sq z207 (oAsI rfl rfl) <| nl) ?_
  refine Unw.seq ?_
  refine Go.seq ?_
  obtain ⟨x10, hx10, h⟩ := bs h
  refine Go.r0 c207 rfl rfl (sq z207 (oMv rfl rfl) <| sq z207 (oCa (xs := [.v false [.im 2 _]]) (vs := [(false, [.im 0 _]), (false, [.im 0 _]), (false, [.im 0 _]), (false, [.im 0 _])]) (v := .tup [(false, [.im 0 _]), (false, [.im 0 _]), (false, [.im 0 _]), (false, [.im 0 _])]) (L_impl_SpeciesData hx10) (.inl rfl) rfl kF260_9 rfl (ppC rfl pp0) rfl rfl pb0 rfl rfl rfl) <| sq z207 (oMvT rfl rfl) <| sq z207 (oEx rfl rfl rfl) <| sq z207 (oEx rfl rfl rfl) <| sq z207 (oEx rfl rfl rfl) <| sq z207 (oEx rfl rfl rfl) <| sq z207 (oAsI rfl rfl) <| sq z207 (oAsI rfl rfl) <| sq z207 (oAsI rfl rfl) <| sq z207 (oAsI rfl rfl) <| nl) ?_
  refine Unw.seq ?_
  refine Go.seq ?_
  refine Go.r0 c207 rfl rfl (sq z207 (oMv rfl rfl) <| sq z207 (oMv rfl rfl) <| sq z207 (oBi rfl rfl rfl rfl) <| sq z207 (oAsI rfl rfl) <| sq z207 (oAsI rfl rfl) <| nl) ?_
  refine Unw.seq ?_
  refine Go.ret (Unw.ret ?_)
  cases h
  exact Fin_ret (fin_of rfl rF207 rfl (by kernel_rfl))
theorem L_impl_isSpecies {name_0 : ByteArray} {r : Bool} (h : impl_isSpecies name_0 = some r) : FL Try.prog cfg 123 [.im 2 false [.sc (.string name_0)]] = some ([(false, [.im 0 (.sc (.bool r))])], []) := by
  unfold impl_isSpecies at h
  refine FL_goS (A := [(0, .v false [.im 2 (.sc (.string name_0))])]) (B := [(0, none)]) (nt := 11) rfl rfl Try.func123 rfl rfl rfl rfl ?_
  refine Go.seq ?_
  refine Go.r0 c123 rfl rfl (sq z123 (oAsI rfl rfl) <| nl) ?_
  refine Unw.seq ?_
  refine Go.seq ?_
  obtain ⟨x7, hx7, h⟩ := bs h
  refine Go.r0 c123 rfl rfl (sq z123 (oMv rfl rfl) <| sq z123 (oCa (xs := [.v false [.im 2 _]]) (vs := [(false, [.im 0 _]), (false, [.im 0 _])]) (v := .tup [(false, [.im 0 _]), (false, [.im 0 _])]) (L_impl_speciesShade hx7) (.inl rfl) rfl kF207_9 rfl (ppC rfl pp0) rfl rfl pb0 rfl rfl rfl) <| sq z123 (oMvT rfl rfl) <| sq z123 (oEx rfl rfl rfl) <| sq z123 (oEx rfl rfl rfl) <| sq z123 (oAsI rfl rfl) <| sq z123 (oAsI rfl rfl) <| nl) ?_
  refine Unw.seq ?_
  refine Go.seq ?_
  refine Go.r0 c123 rfl rfl (sq z123 (oMv rfl rfl) <| sq z123 (oAsI rfl rfl) <| nl) ?_
  refine Unw.seq ?_
  refine Go.ret (Unw.ret ?_)
  cases h
  exact Fin_ret (fin_of rfl rF123 rfl (by kernel_rfl))
theorem L_impl_absolute {n_0 : Int} {r : Int} (h : impl_absolute n_0 = some r) : FL Try.prog cfg 208 [.im 2 false [.sc (.int .i64 n_0)]] = some ([(false, [.im 0 (.sc (.int .i64 r))])], []) := by
  unfold impl_absolute at h
  refine FL_goS (A := [(0, .v false [.im 2 (.sc (.int .i64 n_0))])]) (B := [(0, none)]) (nt := 7) rfl rfl Try.func208 rfl rfl rfl rfl ?_
  refine Go.seq ?_
  refine Go.r0 c208 rfl rfl (sq z208 (oAsI rfl rfl) <| nl) ?_
  refine Unw.seq ?_
  refine Go.seq ?_
  refine Go.r0 c208 rfl rfl (sq z208 (oMv rfl rfl) <| sq z208 (oMv rfl rfl) <| sq z208 (oUn rfl rfl rfl) <| sq z208 (oMax rfl rfl) <| sq z208 (oAsI rfl rfl) <| nl) ?_
  refine Unw.seq ?_
  refine Go.ret (Unw.ret ?_)
  cases h
  exact Fin_ret (fin_of rfl rF208 rfl (by kernel_rfl))
theorem L_impl_gain {species_0 : ByteArray} {heat_1 : Int} {seconds_2 : Int} {r : Int} (h : impl_gain species_0 heat_1 seconds_2 = some r) : FL Try.prog cfg 261 [.im 2 false [.sc (.string species_0)], .im 2 false [.sc (.int .i64 heat_1)], .im 2 false [.sc (.int .i64 seconds_2)]] = some ([(false, [.im 0 (.sc (.int .i64 r))])], []) := by
  unfold impl_gain at h
  refine FL_goS (A := [(0, .v false [.im 2 (.sc (.string species_0))]), (1, .v false [.im 2 (.sc (.int .i64 heat_1))]), (2, .v false [.im 2 (.sc (.int .i64 seconds_2))])]) (B := [(0, none), (1, none), (2, none)]) (nt := 25) rfl rfl Try.func261 rfl rfl rfl rfl ?_
  refine Go.seq ?_
  refine Go.r0 c261 rfl rfl (sq z261 (oAsI rfl rfl) <| nl) ?_
  refine Unw.seq ?_
  refine Go.seq ?_
  obtain ⟨x13, hx13, h⟩ := bs h
  refine Go.r0 c261 rfl rfl (sq z261 (oMv rfl rfl) <| sq z261 (oCa (xs := [.v false [.im 2 _]]) (vs := [(false, [.im 0 _]), (false, [.im 0 _]), (false, [.im 0 _]), (false, [.im 0 _])]) (v := .tup [(false, [.im 0 _]), (false, [.im 0 _]), (false, [.im 0 _]), (false, [.im 0 _])]) (L_impl_SpeciesData hx13) (.inl rfl) rfl kF260_9 rfl (ppC rfl pp0) rfl rfl pb0 rfl rfl rfl) <| sq z261 (oMvT rfl rfl) <| sq z261 (oEx rfl rfl rfl) <| sq z261 (oEx rfl rfl rfl) <| sq z261 (oEx rfl rfl rfl) <| sq z261 (oEx rfl rfl rfl) <| sq z261 (oAsI rfl rfl) <| sq z261 (oAsI rfl rfl) <| sq z261 (oAsI rfl rfl) <| sq z261 (oAsI rfl rfl) <| nl) ?_
  refine Unw.seq ?_
  refine Go.seq ?_
  obtain ⟨x24, hx24, h⟩ := bs h
  refine Go.r0 c261 rfl rfl (sq z261 (oMv rfl rfl) <| sq z261 (oBi rfl rfl rfl rfl) <| sq z261 (oMv rfl rfl) <| sq z261 (oBi rfl rfl rfl rfl) <| sq z261 (oMv rfl rfl) <| sq z261 (oBi rfl rfl rfl rfl) <| sq z261 (oQuo rfl hx24 rfl rfl) <| sq z261 (oAsI rfl rfl) <| nl) ?_
  refine Unw.seq ?_
  refine Go.ret (Unw.ret ?_)
  cases h
  exact Fin_ret (fin_of rfl rF261 rfl (by kernel_rfl))
theorem L_impl_nearest {a_0 : Int} {b_1 : Int} {r : Int} (h : impl_nearest a_0 b_1 = some r) : FL Try.prog cfg 262 [.im 2 false [.sc (.int .i64 a_0)], .im 2 false [.sc (.int .i64 b_1)]] = some ([(false, [.im 0 (.sc (.int .i64 r))])], []) := by
  unfold impl_nearest at h
  refine FL_goS (A := [(0, .v false [.im 2 (.sc (.int .i64 a_0))]), (1, .v false [.im 2 (.sc (.int .i64 b_1))])]) (B := [(0, none), (1, none)]) (nt := 40) rfl rfl Try.func262 rfl rfl rfl rfl ?_
  refine Go.seq ?_
  refine Go.r0 c262 rfl rfl (sq z262 (oAsI rfl rfl) <| nl) ?_
  refine Unw.seq ?_
  refine Go.seq ?_
  refine Go.seq ?_
  refine Go.r0 c262 rfl rfl (sq z262 (oMv rfl rfl) <| sq z262 (oBi rfl rfl rfl rfl) <| nl) ?_
  refine Unw.seq ?_
  by_cases hc1 : b_1 = 0
  · rw [if_pos hc1] at h
    refine Go.condT rfl (iEq.2 hc1) ?_
    refine Go.seq ?_
    refine Go.r0 c262 rfl rfl (sq z262 (oAsI rfl rfl) <| nl) ?_
    refine Unw.seq ?_
    refine Go.ret (Unw.ret ?_)
    cases h
    exact Fin_ret (fin_of rfl rF262 rfl (by kernel_rfl))
  · rw [if_neg hc1] at h
    refine Go.condF rfl (byF iEq hc1) ?_
    refine Go.skip ?_
    refine Unw.seq ?_
    refine Go.seq ?_
    refine Go.r0 c262 rfl rfl (sq z262 (oMv rfl rfl) <| sq z262 (oBi rfl rfl rfl rfl) <| sq z262 (oMv rfl rfl) <| sq z262 (oBi rfl rfl rfl rfl) <| sq z262 (oBiU rfl uF4 rfl rfl rfl) <| sq z262 (oAsI rfl rfl) <| nl) ?_
    refine Unw.seq ?_
    refine Go.seq ?_
    refine Go.r0 c262 rfl rfl (sq z262 (oMv rfl rfl) <| sq z262 (oMv rfl rfl) <| sq z262 (oUn rfl rfl rfl) <| sq z262 (oMax rfl rfl) <| sq z262 (oMv rfl rfl) <| sq z262 (oMv rfl rfl) <| sq z262 (oUn rfl rfl rfl) <| sq z262 (oMax rfl rfl) <| sq z262 (oAsI rfl rfl) <| sq z262 (oAsI rfl rfl) <| nl) ?_
    refine Unw.seq ?_
    refine Go.seq ?_
    obtain ⟨x25, hx25, h⟩ := bs h
    refine Go.r0 c262 rfl rfl (sq z262 (oMv rfl rfl) <| sq z262 (oMv rfl rfl) <| sq z262 (oQuo rfl hx25 rfl rfl) <| sq z262 (oAsI rfl rfl) <| nl) ?_
    refine Unw.seq ?_
    refine Go.seq ?_
    refine Go.seq ?_
    obtain ⟨x28, hx28, h⟩ := bs h
    refine Go.r0 c262 rfl rfl (sq z262 (oMv rfl rfl) <| sq z262 (oMv rfl rfl) <| sq z262 (oRem rfl hx28 rfl rfl) <| sq z262 (oAsI rfl rfl) <| nl) ?_
    refine Unw.seq ?_
    refine Go.seq ?_
    refine Go.r0 c262 rfl rfl (sq z262 (oMv rfl rfl) <| sq z262 (oMv rfl rfl) <| sq z262 (oMv rfl rfl) <| sq z262 (oBi rfl rfl rfl rfl) <| sq z262 (oBi rfl rfl rfl rfl) <| nl) ?_
    refine Unw.seq ?_
    refine Go.join (fun st => ∃ out_6_r9, impl_nearest_k9 a_0 b_1 out_6_r9 = some r ∧ st.norm ([5, 6], []) = mk [(5, bv (!((decide (a_0 < 0)) == (decide (b_1 < 0))))), (6, iv out_6_r9)] []) ?_ ?_
    · rintro st ⟨out_6_r9, h, hst⟩
      unfold impl_nearest_k9 at h
      refine Unw.seq ?_
      refine Go.seq ?_
      refine Go.seq ?_
      refine Go.r1 c262 rfl rfl hst (sq z262 (oMv rfl rfl) <| nl) ?_
      refine Unw.seq ?_
      by_cases hc3 : (decide (a_0 < 0)) = (decide (b_1 < 0))
      · rw [if_pos hc3] at h
        refine Go.condF rfl (nF (iBe.2 hc3)) ?_
        refine Go.skip ?_
        refine Unw.seq ?_
        refine Go.seq ?_
        refine Go.r0 c262 rfl rfl (sq z262 (oMv rfl rfl) <| sq z262 (oAsI rfl rfl) <| nl) ?_
        refine Unw.seq ?_
        refine Go.ret (Unw.ret ?_)
        cases h
        exact Fin_ret (fin_of rfl rF262 rfl (by kernel_rfl))
      · rw [if_neg hc3] at h
        refine Go.condT rfl (nT (byF iBe hc3)) ?_
        refine Go.seq ?_
        refine Go.r0 c262 rfl rfl (sq z262 (oMv rfl rfl) <| sq z262 (oUn rfl rfl rfl) <| sq z262 (oAsI rfl rfl) <| nl) ?_
        refine Unw.seq ?_
        refine Go.ret (Unw.ret ?_)
        cases h
        exact Fin_ret (fin_of rfl rF262 rfl (by kernel_rfl))
    · intro K4
      by_cases hc5 : x28 ≥ (w64 ((max2 b_1 (w64 (0 - b_1))) - x28))
      · rw [if_pos hc5] at h
        refine Go.condT rfl (iDec.2 hc5) ?_
        refine Go.r0 c262 rfl rfl (sq z262 (oMv rfl rfl) <| sq z262 (oBi rfl rfl rfl rfl) <| sq z262 (oAsI rfl rfl) <| nl) ?_
        exact K4 _ ⟨(w64 (x25 + 1)), h, (by kernel_rfl)⟩
      · rw [if_neg hc5] at h
        refine Go.condF rfl (byF iDec hc5) ?_
        refine Go.skip ?_
        exact K4 _ ⟨x25, h, (by kernel_rfl)⟩
theorem L_impl_stepShade {species_0 : ByteArray} {shade_1 : Int} {x_2 : S_Step} {r : Int} (h : impl_stepShade species_0 shade_1 x_2 = some r) : FL Try.prog cfg 210 [.im 2 false [.sc (.string species_0)], .im 2 false [.sc (.int .i64 shade_1)], .im 2 true [.sc (.int .i64 x_2.Kind), .sc (.int .i64 x_2.A), .sc (.int .i64 x_2.B)]] = some ([(false, [.im 0 (.sc (.int .i64 r))])], []) := by
  unfold impl_stepShade at h
  refine FL_goS (A := [(0, .v false [.im 2 (.sc (.string species_0))]), (1, .v false [.im 2 (.sc (.int .i64 shade_1))]), (2, .v true [.im 2 (.sc (.int .i64 x_2.Kind)), .im 2 (.sc (.int .i64 x_2.A)), .im 2 (.sc (.int .i64 x_2.B))])]) (B := [(0, none), (1, none), (2, none)]) (nt := 38) rfl rfl Try.func210 rfl rfl rfl rfl ?_
  refine Go.seq ?_
  refine Go.r0 c210 rfl rfl (sq z210 (oBx rfl tF178 rfl (tkI (tkI (tkI tk0)))) <| sq z210 (oAsI rfl rfl) <| nl) ?_
  refine Unw.seq ?_
  refine Go.seq ?_
  refine Go.seq ?_
  refine Go.r0 c210 rfl rfl (sq z210 (oFA (r' := .mp 5 0 0) rfl fF178_0 rfl rfl) <| sq z210 (oLd (cs := [.im 0 _]) rfl tF2 rfl rfl) <| nl) ?_
  refine Unw.seq ?_
  refine Go.block ?_
  refine Go.seq ?_
  refine Go.r0 c210 rfl rfl (sq z210 (oBi rfl rfl rfl rfl) <| sq z210 (oAsI rfl rfl) <| nl) ?_
  refine Unw.seq ?_
  by_cases hc1 : x_2.Kind = 1
  · rw [if_pos hc1] at h
    refine Go.condT rfl (iEq.2 hc1) ?_
    refine Go.seq ?_
    obtain ⟨x17, hx17, h⟩ := bs h
    refine Go.r0 c210 rfl rfl (sq z210 (oMv rfl rfl) <| sq z210 (oMv rfl rfl) <| sq z210 (oFA (r' := .mp 5 0 1) rfl fF178_1 rfl rfl) <| sq z210 (oLd (cs := [.im 0 _]) rfl tF2 rfl rfl) <| sq z210 (oFA (r' := .mp 5 0 2) rfl fF178_2 rfl rfl) <| sq z210 (oLd (cs := [.im 0 _]) rfl tF2 rfl rfl) <| sq z210 (oCa (xs := [.v false [.im 2 _], .v false [.im 0 _], .v false [.im 0 _]]) (vs := [(false, [.im 0 _])]) (v := .v false [.im 0 _]) (L_impl_gain hx17) (.inl rfl) rfl kF261_9_2_2 rfl (ppC rfl (ppC rfl (ppC rfl pp0))) rfl rfl pb0 rfl rfl rfl) <| sq z210 (oBi rfl rfl rfl rfl) <| sq z210 (oMin rfl rfl) <| sq z210 (oAsI rfl rfl) <| nl) ?_
    refine Unw.seq ?_
    refine Go.ret (Unw.ret ?_)
    cases h
    exact Fin_ret (fin_of rfl rF210 rfl (by kernel_rfl))
  · rw [if_neg hc1] at h
    refine Go.condF rfl (byF iEq hc1) ?_
    refine Go.seq ?_
    refine Go.r0 c210 rfl rfl (sq z210 (oBi rfl rfl rfl rfl) <| sq z210 (oAsI rfl rfl) <| nl) ?_
    refine Unw.seq ?_
    by_cases hc2 : x_2.Kind = 2
    · rw [if_pos hc2] at h
      refine Go.condT rfl (iEq.2 hc2) ?_
      refine Go.seq ?_
      obtain ⟨x30, hx30, h⟩ := bs h
      refine Go.r0 c210 rfl rfl (sq z210 (oMv rfl rfl) <| sq z210 (oFA (r' := .mp 5 0 1) rfl fF178_1 rfl rfl) <| sq z210 (oLd (cs := [.im 0 _]) rfl tF2 rfl rfl) <| sq z210 (oMv rfl rfl) <| sq z210 (oBi rfl rfl rfl rfl) <| sq z210 (oFA (r' := .mp 5 0 2) rfl fF178_2 rfl rfl) <| sq z210 (oLd (cs := [.im 0 _]) rfl tF2 rfl rfl) <| sq z210 (oBi rfl rfl rfl rfl) <| sq z210 (oCa (xs := [.v false [.im 0 _], .v false [.im 0 _]]) (vs := [(false, [.im 0 _])]) (v := .v false [.im 0 _]) (L_impl_nearest hx30) (.inl rfl) rfl kF262_2_2 rfl (ppC rfl (ppC rfl pp0)) rfl rfl pb0 rfl rfl rfl) <| sq z210 (oBi rfl rfl rfl rfl) <| sq z210 (oAsI rfl rfl) <| nl) ?_
      refine Unw.seq ?_
      refine Go.ret (Unw.ret ?_)
      cases h
      exact Fin_ret (fin_of rfl rF210 rfl (by kernel_rfl))
    · rw [if_neg hc2] at h
      refine Go.condF rfl (byF iEq hc2) ?_
      refine Go.skip ?_
      refine Unw.blk ?_
      refine Unw.seq ?_
      refine Go.seq ?_
      obtain ⟨x35, hx35, h⟩ := bs h
      refine Go.r0 c210 rfl rfl (sq z210 (oMv rfl rfl) <| sq z210 (oFA (r' := .mp 5 0 1) rfl fF178_1 rfl rfl) <| sq z210 (oLd (cs := [.im 0 _]) rfl tF2 rfl rfl) <| sq z210 (oQuo rfl hx35 rfl rfl) <| sq z210 (oBi rfl rfl rfl rfl) <| sq z210 (oMax rfl rfl) <| sq z210 (oAsI rfl rfl) <| nl) ?_
      refine Unw.seq ?_
      refine Go.ret (Unw.ret ?_)
      cases h
      exact Fin_ret (fin_of rfl rF210 rfl (by kernel_rfl))
theorem L_impl_stepSearch_run_F {self : (S_stepSearch × (List S_Step) × Int × Int) → Option ((List S_Step) × Int × S_stepSearch)} (ih : ∀ {s_0 : S_stepSearch} {steps_1 : (List S_Step)} {shade_2 : Int} {n_3 : Int} {r : ((List S_Step) × Int × S_stepSearch)}, self (s_0, steps_1, shade_2, n_3) = some r → FL Try.prog cfg 124 [.ptr true [(.imm, .sc (.string s_0.species)), (.imm, .sc (.int .i64 s_0.target)), (.imm, .sc (.int .i64 s_0.tolerance)), (.imm, .row 3 (List.map e_S_Step s_0.menu)), (.imm, .sc (.int .i64 s_0.left))], .mv 3 (List.map e_S_Step steps_1), .im 2 false [.sc (.int .i64 shade_2)], .im 2 false [.sc (.int .i64 n_3)]] = some ([(false, [.ow 0 3 (List.map e_S_Step r.1)]), (false, [.im 0 (.sc (.int .i64 r.2.1))])], [.ptr true [(.imm, .sc (.string r.2.2.species)), (.imm, .sc (.int .i64 r.2.2.target)), (.imm, .sc (.int .i64 r.2.2.tolerance)), (.imm, .row 3 (List.map e_S_Step r.2.2.menu)), (.imm, .sc (.int .i64 r.2.2.left))]])) {s_0 : S_stepSearch} {steps_1 : (List S_Step)} {shade_2 : Int} {n_3 : Int} {r : ((List S_Step) × Int × S_stepSearch)} (h : impl_stepSearch_run_F self s_0 steps_1 shade_2 n_3 = some r) : FL Try.prog cfg 124 [.ptr true [(.imm, .sc (.string s_0.species)), (.imm, .sc (.int .i64 s_0.target)), (.imm, .sc (.int .i64 s_0.tolerance)), (.imm, .row 3 (List.map e_S_Step s_0.menu)), (.imm, .sc (.int .i64 s_0.left))], .mv 3 (List.map e_S_Step steps_1), .im 2 false [.sc (.int .i64 shade_2)], .im 2 false [.sc (.int .i64 n_3)]] = some ([(false, [.ow 0 3 (List.map e_S_Step r.1)]), (false, [.im 0 (.sc (.int .i64 r.2.1))])], [.ptr true [(.imm, .sc (.string r.2.2.species)), (.imm, .sc (.int .i64 r.2.2.target)), (.imm, .sc (.int .i64 r.2.2.tolerance)), (.imm, .row 3 (List.map e_S_Step r.2.2.menu)), (.imm, .sc (.int .i64 r.2.2.left))]]) := by
  unfold impl_stepSearch_run_F at h
  refine FL_goS (A := [(0, .v false [.mp 0 0 0]), (1, .v false [.own 1 0 0]), (2, .v false [.im 2 (.sc (.int .i64 shade_2))]), (3, .v false [.im 2 (.sc (.int .i64 n_3))])]) (B := [(0, some ⟨0, 0, true, true, false, true, [⟨.imm, 0, 0, .sc (.string s_0.species)⟩, ⟨.imm, 0, 0, .sc (.int .i64 s_0.target)⟩, ⟨.imm, 0, 0, .sc (.int .i64 s_0.tolerance)⟩, ⟨.imm, 0, 1, .row 3 (List.map e_S_Step s_0.menu)⟩, ⟨.imm, 0, 0, .sc (.int .i64 s_0.left)⟩]⟩), (1, some ⟨0, 0, false, false, false, false, [⟨.sh, 0, 0, .row 3 (List.map e_S_Step steps_1)⟩]⟩), (2, none), (3, none)]) (nt := 75) rfl rfl Try.func124 rfl rfl rfl rfl ?_
  refine Go.seq ?_
  refine Go.r0 c124 rfl rfl (sq z124 (oAsN rfl rfl eF63) <| sq z124 (oAsI rfl rfl) <| nl) ?_
  refine Unw.seq ?_
  refine Go.seq ?_
  refine Go.seq ?_
  refine Go.r0 c124 rfl rfl (sq z124 (oMv rfl rfl) <| sq z124 (oNl rfl rfl rfl) <| sq z124 (oFA (r' := .mp 0 0 4) rfl fF184_4 rfl rfl) <| sq z124 (oLd (cs := [.im 0 _]) rfl tF2 rfl rfl) <| sq z124 (oBi rfl rfl rfl rfl) <| nl) ?_
  refine Unw.seq ?_
  by_cases hc1 : s_0.left = 0
  · rw [if_pos hc1] at h
    refine Go.condT rfl (iEq.2 hc1) ?_
    refine Go.seq ?_
    refine Go.r0 c124 rfl rfl (sq z124 (oAsN rfl rfl eF63) <| sq z124 (oAsI rfl rfl) <| nl) ?_
    refine Unw.seq ?_
    refine Go.ret (Unw.ret ?_)
    cases h
    exact Fin_ret (fin_of rfl rF124 rfl (by kernel_rfl))
  · rw [if_neg hc1] at h
    refine Go.condF rfl (byF iEq hc1) ?_
    refine Go.skip ?_
    refine Unw.seq ?_
    refine Go.seq ?_
    refine Go.r0 c124 rfl rfl (sq z124 (oMv rfl rfl) <| sq z124 (oNl rfl rfl rfl) <| sq z124 (oFA (r' := .mp 0 0 4) rfl fF184_4 rfl rfl) <| sq z124 (oLd (cs := [.im 0 _]) rfl tF2 rfl rfl) <| sq z124 (oBi rfl rfl rfl rfl) <| sq z124 (oNl rfl rfl rfl) <| sq z124 (oFA (r' := .mp 0 0 4) rfl fF184_4 rfl rfl) <| sq z124 (oSt tF2 rfl rfl rfl (tkI tk0) rfl rfl rfl) <| nl) ?_
    refine Unw.seq ?_
    refine Go.seq ?_
    refine Go.seq ?_
    refine Go.r1 c124 rfl rfl (st1 := mk [(0, .v false [.mp 0 0 0]), (1, .v false [.own 1 0 0]), (2, iv shade_2), (3, iv n_3)] [(0, some ⟨0, 0, true, true, false, true, [⟨.imm, 0, 0, .sc (.string s_0.species)⟩, ⟨.imm, 0, 0, .sc (.int .i64 s_0.target)⟩, ⟨.imm, 0, 0, .sc (.int .i64 s_0.tolerance)⟩, ⟨.imm, 0, 1, .row 3 (List.map e_S_Step s_0.menu)⟩, ⟨.imm, 0, 0, .sc (.int .i64 (w64 (s_0.left - 1)))⟩]⟩), (1, some ⟨0, 0, false, false, false, false, [⟨.sh, 0, 0, .row 3 (List.map e_S_Step steps_1)⟩]⟩)]) (by kernel_rfl) (sq z124 (oMv rfl rfl) <| sq z124 (oLnO rfl rfl uF63 rfl rfl rfl (fun e => nomatch e)) <| sq z124 (oMv rfl rfl) <| sq z124 (oBi rfl rfl rfl rfl) <| nl) ?_
    refine Unw.seq ?_
    by_cases hc2 : (steps_1.length : Int) = n_3
    · rw [if_pos hc2] at h
      refine Go.condT rfl (iEq.2 hc2) ?_
      refine Go.seq ?_
      refine Go.seq ?_
      obtain ⟨x36, hx36, h⟩ := bs h
      refine Go.dr c124 rfl rfl rfl rfl (mk [(1, .v false [.own 1 0 0]), (41, bv (decide (x36 ≤ s_0.tolerance)))] [(0, some ⟨0, 0, true, true, false, true, [⟨.imm, 0, 0, .sc (.string s_0.species)⟩, ⟨.imm, 0, 0, .sc (.int .i64 s_0.target)⟩, ⟨.imm, 0, 0, .sc (.int .i64 s_0.tolerance)⟩, ⟨.imm, 0, 1, .row 3 (List.map e_S_Step s_0.menu)⟩, ⟨.imm, 0, 0, .sc (.int .i64 (w64 (s_0.left - 1)))⟩]⟩), (1, some ⟨0, 0, false, false, false, false, [⟨.sh, 0, 0, .row 3 (List.map e_S_Step steps_1)⟩]⟩)]) (sT rfl (dN z124 rfl (oMv rfl rfl)) <| sT rfl (dN z124 rfl (oMv rfl rfl)) <| sT rfl (dN z124 rfl (oNl rfl rfl rfl)) <| sT rfl (dN z124 rfl (oFA (r' := .mp 0 0 1) rfl fF184_1 rfl rfl)) <| sT rfl (dN z124 rfl (oLd (cs := [.im 0 _]) rfl tF2 rfl rfl)) <| sT rfl (dN z124 rfl (oBi rfl rfl rfl rfl)) <| sT rfl (dN z124 rfl (oMv rfl rfl)) <| sT rfl (dN z124 rfl (oNl rfl rfl rfl)) <| sT rfl (dN z124 rfl (oFA (r' := .mp 0 0 2) rfl fF184_2 rfl rfl)) <| sT rfl (dN z124 rfl (oLd (cs := [.im 0 _]) rfl tF2 rfl rfl)) <| sS (dN z124 rfl (oCa (xs := [.v false [.im 0 _]]) (vs := [(false, [.im 0 _])]) (v := .v false [.im 0 _]) (L_impl_absolute hx36) (.inl rfl) rfl kF208_2 rfl (ppC rfl pp0) rfl rfl pb0 rfl rfl rfl)) trivial (sT rfl (dN z124 rfl (oBi rfl rfl rfl rfl)) <| sD (by kernel_rfl))) ?_
      refine Unw.seq ?_
      by_cases hc3 : x36 ≤ s_0.tolerance
      · rw [if_pos hc3] at h
        refine Go.condT rfl (iDec.2 hc3) ?_
        refine Go.seq ?_
        refine Go.r0 c124 rfl rfl (sq z124 (oMv rfl rfl) <| sq z124 (oAsO rfl rfl rfl rfl rfl) <| sq z124 (oAsI rfl rfl) <| nl) ?_
        refine Unw.seq ?_
        refine Go.ret (Unw.ret ?_)
        cases h
        exact Fin_ret (fin_of rfl rF124 rfl (by kernel_rfl))
      · rw [if_neg hc3] at h
        refine Go.condF rfl (byF iDec hc3) ?_
        refine Go.skip ?_
        refine Unw.seq ?_
        refine Go.seq ?_
        refine Go.r0 c124 rfl rfl (sq z124 (oAsN rfl rfl eF63) <| sq z124 (oAsI rfl rfl) <| nl) ?_
        refine Unw.seq ?_
        refine Go.ret (Unw.ret ?_)
        cases h
        exact Fin_ret (fin_of rfl rF124 rfl (by kernel_rfl))
    · rw [if_neg hc2] at h
      refine Go.condF rfl (byF iEq hc2) ?_
      refine Go.skip ?_
      refine Unw.seq ?_
      refine Go.seq ?_
      refine Go.seq ?_
      refine Go.r0 c124 rfl rfl (sq z124 (oMv rfl rfl) <| sq z124 (oNl rfl rfl rfl) <| sq z124 (oFA (r' := .mp 0 0 3) rfl fF184_3 rfl rfl) <| sq z124 (oLd (cs := [.im 1 _]) rfl tF63 rfl rfl) <| sq z124 (oLnI rfl rfl uF63 rfl) <| sq z124 (oMv rfl rfl) <| nl) ?_
      refine Unw.seq ?_
      refine Go.block ?_
      obtain ⟨o, hl, h⟩ := bs h
      refine Go.lp c124 rfl _ (fun (s : (Int × ByteArray × Int × Int × (List S_Step) × Int)) => match s with | (t_48_l9, s_o0_0_l9, s_o0_1_l9, s_o0_2_l9, s_o0_3_l9, s_o0_4_l9) => mk [(0, .v false [.mp 0 0 0]), (1, .v false [.own 1 0 0]), (2, iv shade_2), (3, iv n_3), (46, .v false [.im 1 (.row 3 (List.map e_S_Step s_0.menu))]), (47, iv (s_0.menu.length : Int)), (48, iv t_48_l9)] [(0, some ⟨0, 0, true, true, false, true, [⟨.imm, 0, 0, .sc (.string s_o0_0_l9)⟩, ⟨.imm, 0, 0, .sc (.int .i64 s_o0_1_l9)⟩, ⟨.imm, 0, 0, .sc (.int .i64 s_o0_2_l9)⟩, ⟨.imm, 0, 1, .row 3 (List.map e_S_Step s_o0_3_l9)⟩, ⟨.imm, 0, 0, .sc (.int .i64 s_o0_4_l9)⟩]⟩), (1, some ⟨0, 0, false, false, false, false, [⟨.sh, 0, 0, .row 3 (List.map e_S_Step steps_1)⟩]⟩)]) (fun (o : ((ByteArray × Int × Int × (List S_Step) × Int) ⊕ ((List S_Step) × Int × S_stepSearch))) (p : Ex × St) => match o with | (.inl (s_o0_0_e0_9, s_o0_1_e0_9, s_o0_2_e0_9, s_o0_3_e0_9, s_o0_4_e0_9)) => p.1 = .exit 0 ∧ p.2.norm ([], [0]) = mk [] [(0, some ⟨0, 0, true, true, false, true, [⟨.imm, 0, 0, .sc (.string s_o0_0_e0_9)⟩, ⟨.imm, 0, 0, .sc (.int .i64 s_o0_1_e0_9)⟩, ⟨.imm, 0, 0, .sc (.int .i64 s_o0_2_e0_9)⟩, ⟨.imm, 0, 1, .row 3 (List.map e_S_Step s_o0_3_e0_9)⟩, ⟨.imm, 0, 0, .sc (.int .i64 s_o0_4_e0_9)⟩]⟩)] | (.inr r2) => p.1 = .ret ∧ fin Try.prog cfg 124 Try.f124 [.ptr true [(.imm, .sc (.string s_0.species)), (.imm, .sc (.int .i64 s_0.target)), (.imm, .sc (.int .i64 s_0.tolerance)), (.imm, .row 3 (List.map e_S_Step s_0.menu)), (.imm, .sc (.int .i64 s_0.left))], .mv 3 (List.map e_S_Step steps_1), .im 2 false [.sc (.int .i64 shade_2)], .im 2 false [.sc (.int .i64 n_3)]] p.2 = some ([(false, [.ow 0 3 (List.map e_S_Step r2.1)]), (false, [.im 0 (.sc (.int .i64 r2.2.1))])], [.ptr true [(.imm, .sc (.string r2.2.2.species)), (.imm, .sc (.int .i64 r2.2.2.target)), (.imm, .sc (.int .i64 r2.2.2.tolerance)), (.imm, .row 3 (List.map e_S_Step r2.2.2.menu)), (.imm, .sc (.int .i64 r2.2.2.left))]])) hl (by kernel_rfl) ?_ ?_ ?_
      · intro o p hp e
        rcases o with ⟨s_o0_0_e0_9, s_o0_1_e0_9, s_o0_2_e0_9, s_o0_3_e0_9, s_o0_4_e0_9⟩ | r2 <;> exact nomatch (hp.1.symm.trans e)
      · rintro ⟨t_48_l9, s_o0_0_l9, s_o0_1_l9, s_o0_2_l9, s_o0_3_l9, s_o0_4_l9⟩ o h
        unfold impl_stepSearch_run_l9 at h
        dsimp only at h
        refine Go.seq ?_
        refine Go.r0 c124 rfl rfl (sq z124 (oBi rfl rfl rfl rfl) <| nl) ?_
        refine Unw.seq ?_
        refine Go.seq ?_
        by_cases hc8 : t_48_l9 < (s_0.menu.length : Int)
        · rw [if_pos hc8] at h
          refine Go.condT rfl (iDec.2 hc8) ?_
          refine Go.skip ?_
          refine Unw.seq ?_
          refine Go.seq ?_
          refine Go.block ?_
          refine Go.seq ?_
          obtain ⟨x50, hx50, h⟩ := bs h
          refine Go.r0 c124 rfl rfl (sq z124 (oIAI rfl hx50 sF63 rfl rfl) <| sq z124 (oLd (cs := [.im 1 _, .im 1 _, .im 1 _]) rfl tF178 rfl rfl) <| sq z124 (oAl rfl tF178 (tkI (tkI (tkI tk0)))) <| sq z124 (oSt tF178 rfl rfl rfl (tkI (tkI (tkI tk0))) rfl rfl rfl) <| nl) ?_
          refine Unw.seq ?_
          refine Go.seq ?_
          obtain ⟨x55, hx55, h⟩ := bs h
          obtain ⟨x58, hx58, h⟩ := bs h
          obtain ⟨x65, hx65, h⟩ := bs h
          obtain ⟨x67, hx67, h⟩ := bs h
          refine Go.dr c124 rfl rfl rfl (st1 := mk [(0, .v false [.mp 0 0 0]), (1, .v false [.own 1 0 0]), (2, iv shade_2), (3, iv n_3), (11, .v false [.mp 11 0 0]), (46, .v false [.im 1 (.row 3 (List.map e_S_Step s_0.menu))]), (47, iv (s_0.menu.length : Int)), (48, iv t_48_l9)] [(0, some ⟨0, 0, true, true, false, true, [⟨.imm, 0, 0, .sc (.string s_o0_0_l9)⟩, ⟨.imm, 0, 0, .sc (.int .i64 s_o0_1_l9)⟩, ⟨.imm, 0, 0, .sc (.int .i64 s_o0_2_l9)⟩, ⟨.imm, 0, 1, .row 3 (List.map e_S_Step s_o0_3_l9)⟩, ⟨.imm, 0, 0, .sc (.int .i64 s_o0_4_l9)⟩]⟩), (1, some ⟨0, 0, false, false, false, false, [⟨.sh, 0, 0, .row 3 (List.map e_S_Step steps_1)⟩]⟩), (11, some ⟨0, 0, false, true, false, true, [⟨.imm, 0, 0, .sc (.int .i64 x50.Kind)⟩, ⟨.imm, 0, 0, .sc (.int .i64 x50.A)⟩, ⟨.imm, 0, 0, .sc (.int .i64 x50.B)⟩]⟩)]) (by kernel_rfl) (mk [(0, .v false [.mp 0 0 0]), (1, .v false [.own 1 0 0]), (2, iv shade_2), (3, iv n_3), (12, .v false [.own 12 0 0]), (13, iv x67.2.1), (46, .v false [.im 1 (.row 3 (List.map e_S_Step s_0.menu))]), (47, iv (s_0.menu.length : Int)), (48, iv t_48_l9)] [(0, some ⟨0, 0, true, true, false, true, [⟨.imm, 0, 0, .sc (.string x67.2.2.species)⟩, ⟨.imm, 0, 0, .sc (.int .i64 x67.2.2.target)⟩, ⟨.imm, 0, 0, .sc (.int .i64 x67.2.2.tolerance)⟩, ⟨.imm, 0, 1, .row 3 (List.map e_S_Step x67.2.2.menu)⟩, ⟨.imm, 0, 0, .sc (.int .i64 x67.2.2.left)⟩]⟩), (1, some ⟨0, 0, false, false, false, false, [⟨.sh, 0, 0, .row 3 (List.map e_S_Step steps_1)⟩]⟩), (12, some ⟨0, 0, false, false, false, false, [⟨.sh, 0, 0, .row 3 (List.map e_S_Step x67.1)⟩]⟩)]) (sT rfl (dN z124 rfl (oMv rfl rfl)) <| sT rfl (dN z124 rfl (oMv rfl rfl)) <| sT rfl (dN z124 rfl (oLd (cs := [.im 0 _, .im 0 _, .im 0 _]) rfl tF178 rfl rfl)) <| sT rfl (dN z124 rfl (oMv rfl rfl)) <| sT rfl (dN z124 rfl (oMv rfl rfl)) <| sT rfl (dN z124 rfl (oMv rfl rfl)) <| sK (O := [0]) rfl rfl rfl (dN z124 rfl (oNl rfl rfl rfl)) <| sK (O := [0]) rfl rfl rfl (dN z124 rfl (oFA (r' := .mp 0 0 0) rfl fF184_0 rfl rfl)) <| sK (O := [0]) rfl rfl rfl (dN z124 rfl (oLd (cs := [.im 0 _]) rfl tF9 rfl rfl)) <| sK (O := [11]) rfl rfl rfl (dN z124 rfl (oLd (cs := [.im 0 _, .im 0 _, .im 0 _]) rfl tF178 rfl rfl)) <| sF (dN z124 rfl (oCr (xs := [.v false [.own 1 0 0]]) (vs := [(false, [.own 55 0 0])]) (v := .v false [.own 55 0 0]) (c := ⟨.sh, 0, _⟩) (cs := []) (FL_cloneN (en := e_S_Step) (L := steps_1) rfl hx55 (fun _ => rfl)) (.inl rfl) rfl kF209_63 rfl (ppC rfl pp0) rfl rfl pb0 rfl rfl rfl)) (kY ⟨rfl, trivial⟩ (kY ⟨rfl, trivial⟩ (kY ⟨rfl, trivial⟩ (kY ⟨rfl, trivial⟩ trivial)))) (sS (dN z124 rfl (oBS (es := List.map e_S_Step ([x50] : List S_Step)) rfl sF63 rfl (ptC rfl (fxI (fxI (fxI fx0))) rfl pt0) (flat0 rfl fun _ => rfl))) (kY ⟨rfl, trivial⟩ (kY ⟨rfl, trivial⟩ (kY ⟨rfl, trivial⟩ (kY ⟨rfl, trivial⟩ trivial)))) (sS (dN z124 rfl (oApO (en := e_S_Step) (M := ([x50] : List S_Step)) rfl hx58 rfl sF63 rfl rfl uF63 (.inl ⟨_, rfl⟩) rfl rfl rfl rfl (el_own rfl rfl) (flat0 rfl fun _ => rfl))) (kY ⟨rfl, trivial⟩ (kY ⟨rfl, trivial⟩ (kY ⟨rfl, trivial⟩ (kY ⟨rfl, trivial⟩ trivial)))) (sS (dN z124 rfl (oCa (xs := [.v false [.im 0 _], .v false [.im 0 _], .v true [.im 0 _, .im 0 _, .im 0 _]]) (vs := [(false, [.im 0 _])]) (v := .v false [.im 0 _]) (L_impl_stepShade hx65) (.inl rfl) rfl kF210_9_2_178 rfl (ppC rfl (ppC rfl (ppC rfl pp0))) rfl rfl pb0 rfl rfl rfl)) (kN rfl (kN rfl (kN rfl (kN rfl trivial)))) (sS (dN z124 rfl (oCr (xs := [.v false [.mp 0 0 0], .v false [.own 58 0 0], .v false [.im 0 _], .v false [.im 0 _]]) (vs := [(false, [.own 67 0 0]), (false, [.im 0 _])]) (v := .tup [(false, [.own 67 0 0]), (false, [.im 0 _])]) (c := ⟨.sh, 0, _⟩) (cs := []) (ih hx67) (.inl rfl) rfl kF124_182_63_2_3 rfl (ppPx (ob' := ⟨0, 0, true, true, false, true, [⟨.imm, 0, 0, .sc (.string s_o0_0_l9)⟩, ⟨.imm, 0, 0, .sc (.int .i64 s_o0_1_l9)⟩, ⟨.imm, 0, 0, .sc (.int .i64 s_o0_2_l9)⟩, ⟨.imm, 0, 1, .row 3 (List.map e_S_Step s_o0_3_l9)⟩, ⟨.imm, 0, 0, .sc (.int .i64 s_o0_4_l9)⟩]⟩) rfl rfl rfl (by kernel_rfl) (ppM (take_own rfl rfl) (ppC rfl (ppC rfl pp0)))) rfl rfl (pbPx (ob' := ⟨0, 1, true, true, false, true, [⟨.imm, 1, 0, .sc (.string x67.2.2.species)⟩, ⟨.imm, 1, 0, .sc (.int .i64 x67.2.2.target)⟩, ⟨.imm, 1, 0, .sc (.int .i64 x67.2.2.tolerance)⟩, ⟨.imm, 1, 1, .row 3 (List.map e_S_Step x67.2.2.menu)⟩, ⟨.imm, 1, 0, .sc (.int .i64 x67.2.2.left)⟩]⟩) rfl rfl (by kernel_rfl) pb0) rfl rfl rfl)) (kN rfl (kN rfl (kN rfl (kN rfl trivial)))) (sT rfl (dN z124 rfl (oMvT rfl rfl)) <| sT rfl (dN z124 rfl (oEx rfl rfl rfl)) <| sT rfl (dN z124 rfl (oEx rfl rfl rfl)) <| sS (dN z124 rfl (oAsO rfl rfl rfl rfl rfl)) (kN rfl (kN rfl (kN rfl (kN rfl trivial)))) (sS (dN z124 rfl (oAsI rfl rfl)) (kN rfl (kN rfl (kN rfl (kN rfl trivial)))) (sD (by kernel_rfl)))))))) (sS (dN z124 rfl (oBS (es := List.map e_S_Step ([x50] : List S_Step)) rfl sF63 rfl (ptC rfl (fxI (fxI (fxI fx0))) rfl pt0) (flat0 rfl fun _ => rfl))) (kY ⟨rfl, trivial⟩ (kY ⟨rfl, trivial⟩ (kY ⟨rfl, trivial⟩ (kY ⟨rfl, trivial⟩ trivial)))) (sS (dN z124 rfl (oCr (xs := [.v false [.own 1 0 0]]) (vs := [(false, [.own 55 0 0])]) (v := .v false [.own 55 0 0]) (c := ⟨.sh, 0, _⟩) (cs := []) (FL_cloneN (en := e_S_Step) (L := steps_1) rfl hx55 (fun _ => rfl)) (.inl rfl) rfl kF209_63 rfl (ppC rfl pp0) rfl rfl pb0 rfl rfl rfl)) (kY ⟨rfl, trivial⟩ (kY ⟨rfl, trivial⟩ (kY ⟨rfl, trivial⟩ (kY ⟨rfl, trivial⟩ trivial)))) (sS (dN z124 rfl (oApO (en := e_S_Step) (M := ([x50] : List S_Step)) rfl hx58 rfl sF63 rfl rfl uF63 (.inl ⟨_, rfl⟩) rfl rfl rfl rfl (el_own rfl rfl) (flat0 rfl fun _ => rfl))) (kY ⟨rfl, trivial⟩ (kY ⟨rfl, trivial⟩ (kY ⟨rfl, trivial⟩ (kY ⟨rfl, trivial⟩ trivial)))) (sS (dN z124 rfl (oCa (xs := [.v false [.im 0 _], .v false [.im 0 _], .v true [.im 0 _, .im 0 _, .im 0 _]]) (vs := [(false, [.im 0 _])]) (v := .v false [.im 0 _]) (L_impl_stepShade hx65) (.inl rfl) rfl kF210_9_2_178 rfl (ppC rfl (ppC rfl (ppC rfl pp0))) rfl rfl pb0 rfl rfl rfl)) (kN rfl (kN rfl (kN rfl (kN rfl trivial)))) (sS (dN z124 rfl (oCr (xs := [.v false [.mp 0 0 0], .v false [.own 58 0 0], .v false [.im 0 _], .v false [.im 0 _]]) (vs := [(false, [.own 67 0 0]), (false, [.im 0 _])]) (v := .tup [(false, [.own 67 0 0]), (false, [.im 0 _])]) (c := ⟨.sh, 0, _⟩) (cs := []) (ih hx67) (.inl rfl) rfl kF124_182_63_2_3 rfl (ppPx (ob' := ⟨0, 0, true, true, false, true, [⟨.imm, 0, 0, .sc (.string s_o0_0_l9)⟩, ⟨.imm, 0, 0, .sc (.int .i64 s_o0_1_l9)⟩, ⟨.imm, 0, 0, .sc (.int .i64 s_o0_2_l9)⟩, ⟨.imm, 0, 1, .row 3 (List.map e_S_Step s_o0_3_l9)⟩, ⟨.imm, 0, 0, .sc (.int .i64 s_o0_4_l9)⟩]⟩) rfl rfl rfl (by kernel_rfl) (ppM (take_own rfl rfl) (ppC rfl (ppC rfl pp0)))) rfl rfl (pbPx (ob' := ⟨0, 1, true, true, false, true, [⟨.imm, 1, 0, .sc (.string x67.2.2.species)⟩, ⟨.imm, 1, 0, .sc (.int .i64 x67.2.2.target)⟩, ⟨.imm, 1, 0, .sc (.int .i64 x67.2.2.tolerance)⟩, ⟨.imm, 1, 1, .row 3 (List.map e_S_Step x67.2.2.menu)⟩, ⟨.imm, 1, 0, .sc (.int .i64 x67.2.2.left)⟩]⟩) rfl rfl (by kernel_rfl) pb0) rfl rfl rfl)) (kN rfl (kN rfl (kN rfl (kN rfl trivial)))) (sT rfl (dN z124 rfl (oMvT rfl rfl)) <| sT rfl (dN z124 rfl (oEx rfl rfl rfl)) <| sT rfl (dN z124 rfl (oEx rfl rfl rfl)) <| sS (dN z124 rfl (oAsO rfl rfl rfl rfl rfl)) (kN rfl (kN rfl (kN rfl (kN rfl trivial)))) (sS (dN z124 rfl (oAsI rfl rfl)) (kN rfl (kN rfl (kN rfl (kN rfl trivial)))) (sD (by kernel_rfl)))))))))) ?_
          refine Unw.seq ?_
          refine Go.seq ?_
          refine Go.r0 c124 rfl rfl (sq z124 (oMv rfl rfl) <| sq z124 (oBi rfl rfl rfl rfl) <| nl) ?_
          refine Unw.seq ?_
          by_cases hc9 : x67.2.1 ≠ 3
          · rw [if_pos hc9] at h
            refine Go.condT rfl (iNe.2 hc9) ?_
            refine Go.seq ?_
            refine Go.r0 c124 rfl rfl (sq z124 (oMv rfl rfl) <| sq z124 (oMv rfl rfl) <| sq z124 (oAsO rfl rfl rfl rfl rfl) <| sq z124 (oAsI rfl rfl) <| nl) ?_
            refine Unw.seq ?_
            refine Go.ret (Unw.ret ?_)
            cases h
            exact ⟨rfl, (fin_of rfl rF124 rfl (by kernel_rfl))⟩
          · rw [if_neg hc9] at h
            refine Go.condF rfl (byF iNe hc9) ?_
            refine Go.skip ?_
            refine Unw.blk ?_
            refine Unw.seq ?_
            refine Go.r0 c124 rfl rfl (sq z124 (oBi rfl rfl rfl rfl) <| sq z124 (oMv rfl rfl) <| nl) ?_
            refine Unw.nil ?_
            cases h
            exact ⟨rfl, (by kernel_rfl)⟩
        · rw [if_neg hc8] at h
          refine Go.condF rfl (byF iDec hc8) ?_
          refine Go.exit ?_
          refine Unw.seqx ?_
          refine Unw.nil ?_
          cases h
          exact ⟨rfl, (by kernel_rfl)⟩
      · rintro ⟨e, st⟩ hp
        rcases o with ⟨s_o0_0_e0_9, s_o0_1_e0_9, s_o0_2_e0_9, s_o0_3_e0_9, s_o0_4_e0_9⟩ | r2
        · dsimp only at h
          obtain ⟨he, hst⟩ := hp
          obtain rfl : e = .exit 0 := he
          refine Unw.blkx ?_
          refine Unw.seq ?_
          refine Go.seq ?_
          refine Go.r1 c124 rfl rfl hst (sq z124 (oAsN rfl rfl eF63) <| sq z124 (oAsI rfl rfl) <| nl) ?_
          refine Unw.seq ?_
          refine Go.ret (Unw.ret ?_)
          cases h
          exact Fin_ret (fin_of rfl rF124 rfl (by kernel_rfl))
        · dsimp only at h
          obtain ⟨he, hfin⟩ := hp
          obtain rfl : e = .ret := he
          cases h
          exact Unw.ret (Fin_ret hfin)
theorem L_impl_stepSearch_run {s_0 : S_stepSearch} {steps_1 : (List S_Step)} {shade_2 : Int} {n_3 : Int} {r : ((List S_Step) × Int × S_stepSearch)} (h : impl_stepSearch_run s_0 steps_1 shade_2 n_3 = some r) : FL Try.prog cfg 124 [.ptr true [(.imm, .sc (.string s_0.species)), (.imm, .sc (.int .i64 s_0.target)), (.imm, .sc (.int .i64 s_0.tolerance)), (.imm, .row 3 (List.map e_S_Step s_0.menu)), (.imm, .sc (.int .i64 s_0.left))], .mv 3 (List.map e_S_Step steps_1), .im 2 false [.sc (.int .i64 shade_2)], .im 2 false [.sc (.int .i64 n_3)]] = some ([(false, [.ow 0 3 (List.map e_S_Step r.1)]), (false, [.im 0 (.sc (.int .i64 r.2.1))])], [.ptr true [(.imm, .sc (.string r.2.2.species)), (.imm, .sc (.int .i64 r.2.2.target)), (.imm, .sc (.int .i64 r.2.2.tolerance)), (.imm, .row 3 (List.map e_S_Step r.2.2.menu)), (.imm, .sc (.int .i64 r.2.2.left))]]) := by
  unfold impl_stepSearch_run at h
  obtain ⟨n, hn⟩ := fixO_iter h
  clear h
  induction n generalizing s_0 steps_1 shade_2 n_3 r with
  | zero => cases hn
  | succ n ihn => exact L_impl_stepSearch_run_F (self := iterO _ n) (fun h => ihn h) hn
theorem L_impl_FewestSteps {species_0 : ByteArray} {shade_1 : Int} {target_2 : Int} {tolerance_3 : Int} {menu_4 : (List S_Step)} {budget_5 : Int} {r : ((List S_Step) × Int)} (h : impl_FewestSteps species_0 shade_1 target_2 tolerance_3 menu_4 budget_5 = some r) : FL Try.prog cfg 43 [.im 2 false [.sc (.string species_0)], .im 2 false [.sc (.int .i64 shade_1)], .im 2 false [.sc (.int .i64 target_2)], .im 2 false [.sc (.int .i64 tolerance_3)], .im 2 false [.row 3 (List.map e_S_Step menu_4)], .im 2 false [.sc (.int .i64 budget_5)]] = some ([(false, [.ow 0 3 (List.map e_S_Step r.1)]), (false, [.im 0 (.sc (.int .i64 r.2))])], []) := by
  unfold impl_FewestSteps at h
  refine FL_goS (A := [(0, .v false [.im 2 (.sc (.string species_0))]), (1, .v false [.im 2 (.sc (.int .i64 shade_1))]), (2, .v false [.im 2 (.sc (.int .i64 target_2))]), (3, .v false [.im 2 (.sc (.int .i64 tolerance_3))]), (4, .v false [.im 2 (.row 3 (List.map e_S_Step menu_4))]), (5, .v false [.im 2 (.sc (.int .i64 budget_5))])]) (B := [(0, none), (1, none), (2, none), (3, none), (4, none), (5, none)]) (nt := 67) rfl rfl Try.func43 rfl rfl rfl rfl ?_
  refine Go.seq ?_
  refine Go.r0 c43 rfl rfl (sq z43 (oAsN rfl rfl eF63) <| sq z43 (oAsI rfl rfl) <| nl) ?_
  refine Unw.seq ?_
  refine Go.seq ?_
  refine Go.block ?_
  refine Go.seq ?_
  obtain ⟨x20, hx20, h⟩ := bs h
  refine Go.r0 c43 rfl rfl (sq z43 (oMv rfl rfl) <| sq z43 (oCa (xs := [.v false [.im 2 _]]) (vs := [(false, [.im 0 _])]) (v := .v false [.im 0 _]) (L_impl_validSteps hx20) (.inl rfl) rfl kF122_63 rfl (ppC rfl pp0) rfl rfl pb0 rfl rfl rfl) <| sq z43 (oUn rfl rfl rfl) <| sq z43 (oAsI rfl rfl) <| nl) ?_
  refine Unw.seq ?_
  by_cases hc1 : x20 = true
  · rw [if_pos hc1] at h
    refine Go.condF rfl (nF (Iff.rfl.2 hc1)) ?_
    refine Go.seq ?_
    obtain ⟨x24, hx24, h⟩ := bs h
    obtain ⟨t_22_m3, hm13, h⟩ := bs h
    refine Go.rX c43 rfl rfl rfl (mk [(0, sv species_0), (1, iv shade_1), (2, iv target_2), (3, iv tolerance_3), (4, .v false [.im 2 (.row 3 (List.map e_S_Step menu_4))]), (5, iv budget_5), (22, bv t_22_m3)] []) ?_ ?_
    · by_cases hc2 : x24 = true
      · rw [if_pos hc2] at hm13
        obtain ⟨x28, hx28, hm13⟩ := bs hm13
        by_cases hc3 : x28 = true
        · rw [if_pos hc3] at hm13
          obtain ⟨x33, hx33, hm13⟩ := bs hm13
          by_cases hc4 : x33 = true
          · rw [if_pos hc4] at hm13
            obtain ⟨x38, hx38, hm13⟩ := bs hm13
            cases hm13
            exact ⟨_, sq z43 (oMv rfl rfl) <| sq z43 (oCa (xs := [.v false [.im 2 _], .v false [.im 0 _], .v false [.im 0 _]]) (vs := [(false, [.im 0 _])]) (v := .v false [.im 0 _]) (L_impl_within hx24) (.inl rfl) rfl kF92_2_2_2 rfl (ppC rfl (ppC rfl (ppC rfl pp0))) rfl rfl pb0 rfl rfl rfl) <| sq z43 (oUn rfl rfl rfl) <| sq z43 (oMv rfl rfl) <| sgT z43 rfl rfl (nF (Iff.rfl.2 hc2)) (oMv rfl rfl) <| sgT z43 rfl rfl (nF (Iff.rfl.2 hc2)) (oCa (xs := [.v false [.im 2 _], .v false [.im 0 _], .v false [.im 0 _]]) (vs := [(false, [.im 0 _])]) (v := .v false [.im 0 _]) (L_impl_within hx28) (.inl rfl) rfl kF92_2_2_2 rfl (ppC rfl (ppC rfl (ppC rfl pp0))) rfl rfl pb0 rfl rfl rfl) <| sgT z43 rfl rfl (nF (Iff.rfl.2 hc2)) (oUn rfl rfl rfl) <| sq z43 (oPkF rfl rfl (nF (Iff.rfl.2 hc2)) rfl) <| sq z43 (oMv rfl rfl) <| sgT z43 rfl rfl (nF (Iff.rfl.2 hc3)) (oMv rfl rfl) <| sgT z43 rfl rfl (nF (Iff.rfl.2 hc3)) (oCa (xs := [.v false [.im 2 _], .v false [.im 0 _], .v false [.im 0 _]]) (vs := [(false, [.im 0 _])]) (v := .v false [.im 0 _]) (L_impl_within hx33) (.inl rfl) rfl kF92_2_2_2 rfl (ppC rfl (ppC rfl (ppC rfl pp0))) rfl rfl pb0 rfl rfl rfl) <| sgT z43 rfl rfl (nF (Iff.rfl.2 hc3)) (oUn rfl rfl rfl) <| sq z43 (oPkF rfl rfl (nF (Iff.rfl.2 hc3)) rfl) <| sq z43 (oMv rfl rfl) <| sgT z43 rfl rfl (nF (Iff.rfl.2 hc4)) (oMv rfl rfl) <| sgT z43 rfl rfl (nF (Iff.rfl.2 hc4)) (oCa (xs := [.v false [.im 2 _], .v false [.im 0 _], .v false [.im 0 _]]) (vs := [(false, [.im 0 _])]) (v := .v false [.im 0 _]) (L_impl_within hx38) (.inl rfl) rfl kF92_2_2_2 rfl (ppC rfl (ppC rfl (ppC rfl pp0))) rfl rfl pb0 rfl rfl rfl) <| sgT z43 rfl rfl (nF (Iff.rfl.2 hc4)) (oUn rfl rfl rfl) <| sq z43 (oPkF rfl rfl (nF (Iff.rfl.2 hc4)) rfl) <| sq z43 (oAsI rfl rfl) <| nl, (by kernel_rfl)⟩
          · rw [if_neg hc4] at hm13
            cases hm13
            exact ⟨_, sq z43 (oMv rfl rfl) <| sq z43 (oCa (xs := [.v false [.im 2 _], .v false [.im 0 _], .v false [.im 0 _]]) (vs := [(false, [.im 0 _])]) (v := .v false [.im 0 _]) (L_impl_within hx24) (.inl rfl) rfl kF92_2_2_2 rfl (ppC rfl (ppC rfl (ppC rfl pp0))) rfl rfl pb0 rfl rfl rfl) <| sq z43 (oUn rfl rfl rfl) <| sq z43 (oMv rfl rfl) <| sgT z43 rfl rfl (nF (Iff.rfl.2 hc2)) (oMv rfl rfl) <| sgT z43 rfl rfl (nF (Iff.rfl.2 hc2)) (oCa (xs := [.v false [.im 2 _], .v false [.im 0 _], .v false [.im 0 _]]) (vs := [(false, [.im 0 _])]) (v := .v false [.im 0 _]) (L_impl_within hx28) (.inl rfl) rfl kF92_2_2_2 rfl (ppC rfl (ppC rfl (ppC rfl pp0))) rfl rfl pb0 rfl rfl rfl) <| sgT z43 rfl rfl (nF (Iff.rfl.2 hc2)) (oUn rfl rfl rfl) <| sq z43 (oPkF rfl rfl (nF (Iff.rfl.2 hc2)) rfl) <| sq z43 (oMv rfl rfl) <| sgT z43 rfl rfl (nF (Iff.rfl.2 hc3)) (oMv rfl rfl) <| sgT z43 rfl rfl (nF (Iff.rfl.2 hc3)) (oCa (xs := [.v false [.im 2 _], .v false [.im 0 _], .v false [.im 0 _]]) (vs := [(false, [.im 0 _])]) (v := .v false [.im 0 _]) (L_impl_within hx33) (.inl rfl) rfl kF92_2_2_2 rfl (ppC rfl (ppC rfl (ppC rfl pp0))) rfl rfl pb0 rfl rfl rfl) <| sgT z43 rfl rfl (nF (Iff.rfl.2 hc3)) (oUn rfl rfl rfl) <| sq z43 (oPkF rfl rfl (nF (Iff.rfl.2 hc3)) rfl) <| sq z43 (oMv rfl rfl) <| sgF rfl rfl (nT (byF Iff.rfl hc4)) rfl <| sgF rfl rfl (nT (byF Iff.rfl hc4)) rfl <| sgF rfl rfl (nT (byF Iff.rfl hc4)) rfl <| sq z43 (oPkT rfl rfl (nT (byF Iff.rfl hc4)) rfl) <| sq z43 (oAsI rfl rfl) <| nl, (by kernel_rfl)⟩
        · rw [if_neg hc3] at hm13
          cases hm13
          exact ⟨_, sq z43 (oMv rfl rfl) <| sq z43 (oCa (xs := [.v false [.im 2 _], .v false [.im 0 _], .v false [.im 0 _]]) (vs := [(false, [.im 0 _])]) (v := .v false [.im 0 _]) (L_impl_within hx24) (.inl rfl) rfl kF92_2_2_2 rfl (ppC rfl (ppC rfl (ppC rfl pp0))) rfl rfl pb0 rfl rfl rfl) <| sq z43 (oUn rfl rfl rfl) <| sq z43 (oMv rfl rfl) <| sgT z43 rfl rfl (nF (Iff.rfl.2 hc2)) (oMv rfl rfl) <| sgT z43 rfl rfl (nF (Iff.rfl.2 hc2)) (oCa (xs := [.v false [.im 2 _], .v false [.im 0 _], .v false [.im 0 _]]) (vs := [(false, [.im 0 _])]) (v := .v false [.im 0 _]) (L_impl_within hx28) (.inl rfl) rfl kF92_2_2_2 rfl (ppC rfl (ppC rfl (ppC rfl pp0))) rfl rfl pb0 rfl rfl rfl) <| sgT z43 rfl rfl (nF (Iff.rfl.2 hc2)) (oUn rfl rfl rfl) <| sq z43 (oPkF rfl rfl (nF (Iff.rfl.2 hc2)) rfl) <| sq z43 (oMv rfl rfl) <| sgF rfl rfl (nT (byF Iff.rfl hc3)) rfl <| sgF rfl rfl (nT (byF Iff.rfl hc3)) rfl <| sgF rfl rfl (nT (byF Iff.rfl hc3)) rfl <| sq z43 (oPkT rfl rfl (nT (byF Iff.rfl hc3)) rfl) <| sq z43 (oMv rfl rfl) <| sgF rfl rfl rfl rfl <| sgF rfl rfl rfl rfl <| sgF rfl rfl rfl rfl <| sq z43 (oPkT rfl rfl rfl rfl) <| sq z43 (oAsI rfl rfl) <| nl, (by kernel_rfl)⟩
      · rw [if_neg hc2] at hm13
        cases hm13
        exact ⟨_, sq z43 (oMv rfl rfl) <| sq z43 (oCa (xs := [.v false [.im 2 _], .v false [.im 0 _], .v false [.im 0 _]]) (vs := [(false, [.im 0 _])]) (v := .v false [.im 0 _]) (L_impl_within hx24) (.inl rfl) rfl kF92_2_2_2 rfl (ppC rfl (ppC rfl (ppC rfl pp0))) rfl rfl pb0 rfl rfl rfl) <| sq z43 (oUn rfl rfl rfl) <| sq z43 (oMv rfl rfl) <| sgF rfl rfl (nT (byF Iff.rfl hc2)) rfl <| sgF rfl rfl (nT (byF Iff.rfl hc2)) rfl <| sgF rfl rfl (nT (byF Iff.rfl hc2)) rfl <| sq z43 (oPkT rfl rfl (nT (byF Iff.rfl hc2)) rfl) <| sq z43 (oMv rfl rfl) <| sgF rfl rfl rfl rfl <| sgF rfl rfl rfl rfl <| sgF rfl rfl rfl rfl <| sq z43 (oPkT rfl rfl rfl rfl) <| sq z43 (oMv rfl rfl) <| sgF rfl rfl rfl rfl <| sgF rfl rfl rfl rfl <| sgF rfl rfl rfl rfl <| sq z43 (oPkT rfl rfl rfl rfl) <| sq z43 (oAsI rfl rfl) <| nl, (by kernel_rfl)⟩
    · refine Unw.seq ?_
      by_cases hc5 : t_22_m3 = true
      · rw [if_pos hc5] at h
        refine Go.condT rfl (Iff.rfl.2 hc5) ?_
        refine Go.seq ?_
        refine Go.r0 c43 rfl rfl (sq z43 (oAsN rfl rfl eF63) <| sq z43 (oAsI rfl rfl) <| nl) ?_
        refine Unw.seq ?_
        refine Go.ret (Unw.ret ?_)
        cases h
        exact Fin_ret (fin_of rfl rF43 rfl (by kernel_rfl))
      · rw [if_neg hc5] at h
        refine Go.condF rfl (byF Iff.rfl hc5) ?_
        refine Go.seq ?_
        obtain ⟨x43, hx43, h⟩ := bs h
        refine Go.r0 c43 rfl rfl (sq z43 (oMv rfl rfl) <| sq z43 (oCa (xs := [.v false [.im 0 _]]) (vs := [(false, [.im 0 _])]) (v := .v false [.im 0 _]) (L_impl_isSpecies hx43) (.inl rfl) rfl kF123_9 rfl (ppC rfl pp0) rfl rfl pb0 rfl rfl rfl) <| sq z43 (oUn rfl rfl rfl) <| sq z43 (oAsI rfl rfl) <| nl) ?_
        refine Unw.seq ?_
        by_cases hc6 : x43 = true
        · rw [if_pos hc6] at h
          refine Go.condF rfl (nF (Iff.rfl.2 hc6)) ?_
          refine Go.skip ?_
          refine Unw.blk ?_
          refine Unw.seq ?_
          refine Go.seq ?_
          refine Go.r0 c43 rfl rfl (sq z43 (oMv rfl rfl) <| sq z43 (oMv rfl rfl) <| sq z43 (oMv rfl rfl) <| sq z43 (oMv rfl rfl) <| sq z43 (oMv rfl rfl) <| sq z43 (oBu (cs := [.im 0 _, .im 0 _, .im 0 _, .im 2 _, .im 0 _]) rfl bF184 rfl) <| sq z43 (oBx rfl tF184 rfl (tkI (tkI (tkI (tkI (tkI tk0)))))) <| sq z43 (oAsP rfl rfl) <| nl) ?_
          refine Unw.seq ?_
          refine Go.seq ?_
          refine Go.seq ?_
          refine Go.r1 c43 rfl rfl (st1 := mk [(1, iv shade_1), (14, .v false [.mp 51 0 0])] [(51, some ⟨0, 0, false, true, false, true, [⟨.imm, 0, 0, .sc (.string species_0)⟩, ⟨.imm, 0, 0, .sc (.int .i64 target_2)⟩, ⟨.imm, 0, 0, .sc (.int .i64 tolerance_3)⟩, ⟨.imm, 0, 2, .row 3 (List.map e_S_Step menu_4)⟩, ⟨.imm, 0, 0, .sc (.int .i64 budget_5)⟩]⟩)]) (by kernel_rfl) (sq z43 (oMv rfl rfl) <| nl) ?_
          refine Unw.seq ?_
          refine Go.block ?_
          obtain ⟨o, hl, h⟩ := bs h
          refine Go.lp c43 rfl _ (fun (s : (Int × ByteArray × Int × Int × (List S_Step) × Int)) => match s with | (t_52_l9, o_o51_0_l9, o_o51_1_l9, o_o51_2_l9, o_o51_3_l9, o_o51_4_l9) => mk [(1, iv shade_1), (14, .v false [.mp 51 0 0]), (52, iv t_52_l9)] [(51, some ⟨0, 0, false, true, false, true, [⟨.imm, 0, 0, .sc (.string o_o51_0_l9)⟩, ⟨.imm, 0, 0, .sc (.int .i64 o_o51_1_l9)⟩, ⟨.imm, 0, 0, .sc (.int .i64 o_o51_2_l9)⟩, ⟨.imm, 0, 2, .row 3 (List.map e_S_Step o_o51_3_l9)⟩, ⟨.imm, 0, 0, .sc (.int .i64 o_o51_4_l9)⟩]⟩)]) (fun (o : (Unit ⊕ ((List S_Step) × Int))) (p : Ex × St) => match o with | (.inl _) => p.1 = .exit 1 ∧ p.2.norm ([], []) = mk [] [] | (.inr r2) => p.1 = .ret ∧ fin Try.prog cfg 43 Try.f43 [.im 2 false [.sc (.string species_0)], .im 2 false [.sc (.int .i64 shade_1)], .im 2 false [.sc (.int .i64 target_2)], .im 2 false [.sc (.int .i64 tolerance_3)], .im 2 false [.row 3 (List.map e_S_Step menu_4)], .im 2 false [.sc (.int .i64 budget_5)]] p.2 = some ([(false, [.ow 0 3 (List.map e_S_Step r2.1)]), (false, [.im 0 (.sc (.int .i64 r2.2))])], [])) hl (by kernel_rfl) ?_ ?_ ?_
          · intro o p hp e
            rcases o with u | r2 <;> exact nomatch (hp.1.symm.trans e)
          · rintro ⟨t_52_l9, o_o51_0_l9, o_o51_1_l9, o_o51_2_l9, o_o51_3_l9, o_o51_4_l9⟩ o h
            unfold impl_FewestSteps_l9 at h
            dsimp only at h
            refine Go.seq ?_
            refine Go.r0 c43 rfl rfl (sq z43 (oBi rfl rfl rfl rfl) <| nl) ?_
            refine Unw.seq ?_
            refine Go.seq ?_
            by_cases hc11 : t_52_l9 < 9
            · rw [if_pos hc11] at h
              refine Go.condT rfl (iDec.2 hc11) ?_
              refine Go.skip ?_
              refine Unw.seq ?_
              refine Go.seq ?_
              refine Go.block ?_
              refine Go.seq ?_
              refine Go.r0 c43 rfl rfl (sq z43 (oMv rfl rfl) <| sq z43 (oAsI rfl rfl) <| nl) ?_
              refine Unw.seq ?_
              refine Go.seq ?_
              obtain ⟨x59, hx59, h⟩ := bs h
              refine Go.r0 c43 rfl rfl (sq z43 (oMv rfl rfl) <| sq z43 (oMv rfl rfl) <| sq z43 (oMv rfl rfl) <| sq z43 (oCr (xs := [.v false [.mp 51 0 0], .v false [.nil], .v false [.im 0 _], .v false [.im 0 _]]) (vs := [(false, [.own 59 0 0]), (false, [.im 0 _])]) (v := .tup [(false, [.own 59 0 0]), (false, [.im 0 _])]) (c := ⟨.sh, 0, _⟩) (cs := []) (L_impl_stepSearch_run hx59) (.inl rfl) rfl kF124_182_63_2_3 rfl (ppPx (ob' := ⟨0, 0, false, true, false, true, [⟨.imm, 0, 0, .sc (.string o_o51_0_l9)⟩, ⟨.imm, 0, 0, .sc (.int .i64 o_o51_1_l9)⟩, ⟨.imm, 0, 0, .sc (.int .i64 o_o51_2_l9)⟩, ⟨.imm, 0, 2, .row 3 (List.map e_S_Step o_o51_3_l9)⟩, ⟨.imm, 0, 0, .sc (.int .i64 o_o51_4_l9)⟩]⟩) rfl rfl rfl (by kernel_rfl) (ppM take_nil (ppC rfl (ppC rfl pp0)))) rfl rfl (pbPx (ob' := ⟨0, 1, false, true, false, true, [⟨.imm, 1, 0, .sc (.string x59.2.2.species)⟩, ⟨.imm, 1, 0, .sc (.int .i64 x59.2.2.target)⟩, ⟨.imm, 1, 0, .sc (.int .i64 x59.2.2.tolerance)⟩, ⟨.imm, 1, 2, .row 3 (List.map e_S_Step x59.2.2.menu)⟩, ⟨.imm, 1, 0, .sc (.int .i64 x59.2.2.left)⟩]⟩) rfl rfl (by kernel_rfl) pb0) rfl rfl rfl) <| sq z43 (oMvT rfl rfl) <| sq z43 (oEx rfl rfl rfl) <| sq z43 (oEx rfl rfl rfl) <| sq z43 (oAsO rfl rfl rfl rfl rfl) <| sq z43 (oAsI rfl rfl) <| nl) ?_
              refine Unw.seq ?_
              refine Go.seq ?_
              refine Go.r1 c43 rfl rfl (st1 := mk [(1, iv shade_1), (14, .v false [.mp 51 0 0]), (16, .v false [.own 16 0 0]), (17, iv x59.2.1), (52, iv t_52_l9)] [(16, some ⟨0, 0, false, false, false, false, [⟨.sh, 0, 0, .row 3 (List.map e_S_Step x59.1)⟩]⟩), (51, some ⟨0, 0, false, true, false, true, [⟨.imm, 0, 0, .sc (.string x59.2.2.species)⟩, ⟨.imm, 0, 0, .sc (.int .i64 x59.2.2.target)⟩, ⟨.imm, 0, 0, .sc (.int .i64 x59.2.2.tolerance)⟩, ⟨.imm, 0, 2, .row 3 (List.map e_S_Step x59.2.2.menu)⟩, ⟨.imm, 0, 0, .sc (.int .i64 x59.2.2.left)⟩]⟩)]) (by kernel_rfl) (sq z43 (oMv rfl rfl) <| sq z43 (oBi rfl rfl rfl rfl) <| nl) ?_
              refine Unw.seq ?_
              by_cases hc12 : x59.2.1 ≠ 3
              · rw [if_pos hc12] at h
                refine Go.condT rfl (iNe.2 hc12) ?_
                refine Go.seq ?_
                refine Go.r0 c43 rfl rfl (sq z43 (oMv rfl rfl) <| sq z43 (oMv rfl rfl) <| sq z43 (oAsO rfl rfl rfl rfl rfl) <| sq z43 (oAsI rfl rfl) <| nl) ?_
                refine Unw.seq ?_
                refine Go.ret (Unw.ret ?_)
                cases h
                exact ⟨rfl, (fin_of rfl rF43 rfl (by kernel_rfl))⟩
              · rw [if_neg hc12] at h
                refine Go.condF rfl (byF iNe hc12) ?_
                refine Go.skip ?_
                refine Unw.blk ?_
                refine Unw.seq ?_
                refine Go.r0 c43 rfl rfl (sq z43 (oBi rfl rfl rfl rfl) <| sq z43 (oMv rfl rfl) <| nl) ?_
                refine Unw.nil ?_
                cases h
                exact ⟨rfl, (by kernel_rfl)⟩
            · rw [if_neg hc11] at h
              refine Go.condF rfl (byF iDec hc11) ?_
              refine Go.exit ?_
              refine Unw.seqx ?_
              refine Unw.nil ?_
              cases h
              exact ⟨rfl, (by kernel_rfl)⟩
          · rintro ⟨e, st⟩ hp
            rcases o with u | r2
            · dsimp only at h
              obtain ⟨he, hst⟩ := hp
              obtain rfl : e = .exit 1 := he
              refine Unw.blkx ?_
              refine Unw.seq ?_
              refine Go.seq ?_
              refine Go.r1 c43 rfl rfl hst (sq z43 (oAsN rfl rfl eF63) <| sq z43 (oAsI rfl rfl) <| nl) ?_
              refine Unw.seq ?_
              refine Go.ret (Unw.ret ?_)
              cases h
              exact Fin_ret (fin_of rfl rF43 rfl (by kernel_rfl))
            · dsimp only at h
              obtain ⟨he, hfin⟩ := hp
              obtain rfl : e = .ret := he
              cases h
              exact Unw.ret (Fin_ret hfin)
        · rw [if_neg hc6] at h
          refine Go.condT rfl (nT (byF Iff.rfl hc6)) ?_
          refine Go.seq ?_
          refine Go.r0 c43 rfl rfl (sq z43 (oAsN rfl rfl eF63) <| sq z43 (oAsI rfl rfl) <| nl) ?_
          refine Unw.seq ?_
          refine Go.ret (Unw.ret ?_)
          cases h
          exact Fin_ret (fin_of rfl rF43 rfl (by kernel_rfl))
  · rw [if_neg hc1] at h
    refine Go.condT rfl (nT (byF Iff.rfl hc1)) ?_
    refine Go.seq ?_
    refine Go.r0 c43 rfl rfl (sq z43 (oAsN rfl rfl eF63) <| sq z43 (oAsI rfl rfl) <| nl) ?_
    refine Unw.seq ?_
    refine Go.ret (Unw.ret ?_)
    cases h
    exact Fin_ret (fin_of rfl rF43 rfl (by kernel_rfl))
theorem L_laws_eqStep {a_0 : S_Step} {b_1 : S_Step} {r : Bool} (h : laws_eqStep a_0 b_1 = some r) : FL Try.prog cfg 125 [.im 2 true [.sc (.int .i64 a_0.Kind), .sc (.int .i64 a_0.A), .sc (.int .i64 a_0.B)], .im 2 true [.sc (.int .i64 b_1.Kind), .sc (.int .i64 b_1.A), .sc (.int .i64 b_1.B)]] = some ([(false, [.im 0 (.sc (.bool r))])], []) := by
  unfold laws_eqStep at h
  refine FL_goS (A := [(0, .v true [.im 2 (.sc (.int .i64 a_0.Kind)), .im 2 (.sc (.int .i64 a_0.A)), .im 2 (.sc (.int .i64 a_0.B))]), (1, .v true [.im 2 (.sc (.int .i64 b_1.Kind)), .im 2 (.sc (.int .i64 b_1.A)), .im 2 (.sc (.int .i64 b_1.B))])]) (B := [(0, none), (1, none)]) (nt := 20) rfl rfl Try.func125 rfl rfl rfl rfl ?_
  refine Go.seq ?_
  refine Go.r0 c125 rfl rfl (sq z125 (oBx rfl tF178 rfl (tkI (tkI (tkI tk0)))) <| sq z125 (oBx rfl tF178 rfl (tkI (tkI (tkI tk0)))) <| sq z125 (oAsI rfl rfl) <| nl) ?_
  refine Unw.seq ?_
  refine Go.seq ?_
  refine Go.seq ?_
  refine Go.r0 c125 rfl rfl (sq z125 (oFA (r' := .mp 2 0 0) rfl fF178_0 rfl rfl) <| sq z125 (oLd (cs := [.im 0 _]) rfl tF2 rfl rfl) <| sq z125 (oFA (r' := .mp 3 0 0) rfl fF178_0 rfl rfl) <| sq z125 (oLd (cs := [.im 0 _]) rfl tF2 rfl rfl) <| sq z125 (oBi rfl rfl rfl rfl) <| nl) ?_
  refine Unw.seq ?_
  by_cases hc1 : a_0.Kind ≠ b_1.Kind
  · rw [if_pos hc1] at h
    refine Go.condT rfl (iNe.2 hc1) ?_
    refine Go.seq ?_
    refine Go.r0 c125 rfl rfl (sq z125 (oAsI rfl rfl) <| nl) ?_
    refine Unw.seq ?_
    refine Go.ret (Unw.ret ?_)
    cases h
    exact Fin_ret (fin_of rfl rF125 rfl (by kernel_rfl))
  · rw [if_neg hc1] at h
    refine Go.condF rfl (byF iNe hc1) ?_
    refine Go.skip ?_
    refine Unw.seq ?_
    refine Go.seq ?_
    refine Go.seq ?_
    refine Go.r0 c125 rfl rfl (sq z125 (oFA (r' := .mp 2 0 1) rfl fF178_1 rfl rfl) <| sq z125 (oLd (cs := [.im 0 _]) rfl tF2 rfl rfl) <| sq z125 (oFA (r' := .mp 3 0 1) rfl fF178_1 rfl rfl) <| sq z125 (oLd (cs := [.im 0 _]) rfl tF2 rfl rfl) <| sq z125 (oBi rfl rfl rfl rfl) <| nl) ?_
    refine Unw.seq ?_
    by_cases hc2 : a_0.A ≠ b_1.A
    · rw [if_pos hc2] at h
      refine Go.condT rfl (iNe.2 hc2) ?_
      refine Go.seq ?_
      refine Go.r0 c125 rfl rfl (sq z125 (oAsI rfl rfl) <| nl) ?_
      refine Unw.seq ?_
      refine Go.ret (Unw.ret ?_)
      cases h
      exact Fin_ret (fin_of rfl rF125 rfl (by kernel_rfl))
    · rw [if_neg hc2] at h
      refine Go.condF rfl (byF iNe hc2) ?_
      refine Go.skip ?_
      refine Unw.seq ?_
      refine Go.seq ?_
      refine Go.seq ?_
      refine Go.r0 c125 rfl rfl (sq z125 (oFA (r' := .mp 2 0 2) rfl fF178_2 rfl rfl) <| sq z125 (oLd (cs := [.im 0 _]) rfl tF2 rfl rfl) <| sq z125 (oFA (r' := .mp 3 0 2) rfl fF178_2 rfl rfl) <| sq z125 (oLd (cs := [.im 0 _]) rfl tF2 rfl rfl) <| sq z125 (oBi rfl rfl rfl rfl) <| nl) ?_
      refine Unw.seq ?_
      by_cases hc3 : a_0.B ≠ b_1.B
      · rw [if_pos hc3] at h
        refine Go.condT rfl (iNe.2 hc3) ?_
        refine Go.seq ?_
        refine Go.r0 c125 rfl rfl (sq z125 (oAsI rfl rfl) <| nl) ?_
        refine Unw.seq ?_
        refine Go.ret (Unw.ret ?_)
        cases h
        exact Fin_ret (fin_of rfl rF125 rfl (by kernel_rfl))
      · rw [if_neg hc3] at h
        refine Go.condF rfl (byF iNe hc3) ?_
        refine Go.skip ?_
        refine Unw.seq ?_
        refine Go.seq ?_
        refine Go.r0 c125 rfl rfl (sq z125 (oAsI rfl rfl) <| nl) ?_
        refine Unw.seq ?_
        refine Go.ret (Unw.ret ?_)
        cases h
        exact Fin_ret (fin_of rfl rF125 rfl (by kernel_rfl))
theorem L_laws_eqStepS {a_0 : (List S_Step)} {b_1 : (List S_Step)} {r : Bool} (h : laws_eqStepS a_0 b_1 = some r) : FL Try.prog cfg 44 [.im 2 false [.row 3 (List.map e_S_Step a_0)], .im 2 false [.row 3 (List.map e_S_Step b_1)]] = some ([(false, [.im 0 (.sc (.bool r))])], []) := by
  unfold laws_eqStepS at h
  refine FL_goS (A := [(0, .v false [.im 2 (.row 3 (List.map e_S_Step a_0))]), (1, .v false [.im 2 (.row 3 (List.map e_S_Step b_1))])]) (B := [(0, none), (1, none)]) (nt := 27) rfl rfl Try.func44 rfl rfl rfl rfl ?_
  refine Go.seq ?_
  refine Go.r0 c44 rfl rfl (sq z44 (oAsI rfl rfl) <| nl) ?_
  refine Unw.seq ?_
  refine Go.seq ?_
  refine Go.seq ?_
  refine Go.r0 c44 rfl rfl (sq z44 (oMv rfl rfl) <| sq z44 (oLnI rfl rfl uF63 rfl) <| sq z44 (oMv rfl rfl) <| sq z44 (oLnI rfl rfl uF63 rfl) <| sq z44 (oBi rfl rfl rfl rfl) <| nl) ?_
  refine Unw.seq ?_
  by_cases hc1 : (a_0.length : Int) ≠ (b_1.length : Int)
  · rw [if_pos hc1] at h
    refine Go.condT rfl (iNe.2 hc1) ?_
    refine Go.seq ?_
    refine Go.r0 c44 rfl rfl (sq z44 (oAsI rfl rfl) <| nl) ?_
    refine Unw.seq ?_
    refine Go.ret (Unw.ret ?_)
    cases h
    exact Fin_ret (fin_of rfl rF44 rfl (by kernel_rfl))
  · rw [if_neg hc1] at h
    refine Go.condF rfl (byF iNe hc1) ?_
    refine Go.skip ?_
    refine Unw.seq ?_
    refine Go.seq ?_
    refine Go.seq ?_
    refine Go.r0 c44 rfl rfl (sq z44 (oAsI rfl rfl) <| nl) ?_
    refine Unw.seq ?_
    refine Go.block ?_
    obtain ⟨o, hl, h⟩ := bs h
    refine Go.lp c44 rfl _ (fun (i_5_l4 : Int) => mk [(0, .v false [.im 2 (.row 3 (List.map e_S_Step a_0))]), (1, .v false [.im 2 (.row 3 (List.map e_S_Step b_1))]), (5, iv i_5_l4)] []) (fun (o : (Unit ⊕ Bool)) (p : Ex × St) => match o with | (.inl _) => p.1 = .exit 0 ∧ p.2.norm ([], []) = mk [] [] | (.inr r2) => p.1 = .ret ∧ fin Try.prog cfg 44 Try.f44 [.im 2 false [.row 3 (List.map e_S_Step a_0)], .im 2 false [.row 3 (List.map e_S_Step b_1)]] p.2 = some ([(false, [.im 0 (.sc (.bool r2))])], [])) hl (by kernel_rfl) ?_ ?_ ?_
    · intro o p hp e
      rcases o with u | r2 <;> exact nomatch (hp.1.symm.trans e)
    · rintro i_5_l4 o h
      unfold laws_eqStepS_l4 at h
      refine Go.seq ?_
      refine Go.seq ?_
      refine Go.r0 c44 rfl rfl (sq z44 (oMv rfl rfl) <| sq z44 (oMv rfl rfl) <| sq z44 (oLnI rfl rfl uF63 rfl) <| sq z44 (oBi rfl rfl rfl rfl) <| nl) ?_
      refine Unw.seq ?_
      by_cases hc6 : i_5_l4 < (a_0.length : Int)
      · rw [if_pos hc6] at h
        refine Go.condT rfl (iDec.2 hc6) ?_
        refine Go.skip ?_
        refine Unw.seq ?_
        refine Go.seq ?_
        refine Go.block ?_
        refine Go.seq ?_
        obtain ⟨x19, hx19, h⟩ := bs h
        obtain ⟨x23, hx23, h⟩ := bs h
        obtain ⟨x25, hx25, h⟩ := bs h
        refine Go.dr c44 rfl rfl rfl rfl (mk [(0, .v false [.im 2 (.row 3 (List.map e_S_Step a_0))]), (1, .v false [.im 2 (.row 3 (List.map e_S_Step b_1))]), (5, iv i_5_l4), (26, bv (!x25))] []) (sT rfl (dN z44 rfl (oMv rfl rfl)) <| sT rfl (dN z44 rfl (oMv rfl rfl)) <| sT rfl (dN z44 rfl (oIAI rfl hx19 sF63 rfl rfl)) <| sT rfl (dN z44 rfl (oLd (cs := [.im 2 _, .im 2 _, .im 2 _]) rfl tF178 rfl rfl)) <| sT rfl (dN z44 rfl (oMv rfl rfl)) <| sT rfl (dN z44 rfl (oMv rfl rfl)) <| sT rfl (dN z44 rfl (oIAI rfl hx23 sF63 rfl rfl)) <| sT rfl (dN z44 rfl (oLd (cs := [.im 2 _, .im 2 _, .im 2 _]) rfl tF178 rfl rfl)) <| sS (dN z44 rfl (oCa (xs := [.v true [.im 2 _, .im 2 _, .im 2 _], .v true [.im 2 _, .im 2 _, .im 2 _]]) (vs := [(false, [.im 0 _])]) (v := .v false [.im 0 _]) (L_laws_eqStep hx25) (.inl rfl) rfl kF125_178_178 rfl (ppC rfl (ppC rfl pp0)) rfl rfl pb0 rfl rfl rfl)) trivial (sT rfl (dN z44 rfl (oUn rfl rfl rfl)) <| sD (by kernel_rfl))) ?_
        refine Unw.seq ?_
        by_cases hc7 : x25 = true
        · rw [if_pos hc7] at h
          refine Go.condF rfl (nF (Iff.rfl.2 hc7)) ?_
          refine Go.skip ?_
          refine Unw.blk ?_
          refine Unw.seq ?_
          refine Go.r0 c44 rfl rfl (sq z44 (oMv rfl rfl) <| sq z44 (oBi rfl rfl rfl rfl) <| sq z44 (oAsI rfl rfl) <| nl) ?_
          refine Unw.nil ?_
          cases h
          exact ⟨rfl, (by kernel_rfl)⟩
        · rw [if_neg hc7] at h
          refine Go.condT rfl (nT (byF Iff.rfl hc7)) ?_
          refine Go.seq ?_
          refine Go.r0 c44 rfl rfl (sq z44 (oAsI rfl rfl) <| nl) ?_
          refine Unw.seq ?_
          refine Go.ret (Unw.ret ?_)
          cases h
          exact ⟨rfl, (fin_of rfl rF44 rfl (by kernel_rfl))⟩
      · rw [if_neg hc6] at h
        refine Go.condF rfl (byF iDec hc6) ?_
        refine Go.exit ?_
        refine Unw.seqx ?_
        refine Unw.nil ?_
        cases h
        exact ⟨rfl, (by kernel_rfl)⟩
    · rintro ⟨e, st⟩ hp
      rcases o with u | r2
      · dsimp only at h
        obtain ⟨he, hst⟩ := hp
        obtain rfl : e = .exit 0 := he
        refine Unw.blkx ?_
        refine Unw.seq ?_
        refine Go.seq ?_
        refine Go.r1 c44 rfl rfl hst (sq z44 (oAsI rfl rfl) <| nl) ?_
        refine Unw.seq ?_
        refine Go.ret (Unw.ret ?_)
        cases h
        exact Fin_ret (fin_of rfl rF44 rfl (by kernel_rfl))
      · dsimp only at h
        obtain ⟨he, hfin⟩ := hp
        obtain rfl : e = .ret := he
        cases h
        exact Unw.ret (Fin_ret hfin)
theorem L_laws_markStepS {a_0 : (List S_Step)} {k_1 : Int} {r : (Int × (List S_Step))} (h : laws_markStepS a_0 k_1 = some r) : FL Try.prog cfg 45 [.ow 3 (List.map e_S_Step a_0), .im 2 false [.sc (.int .i64 k_1)]] = some ([(false, [.im 0 (.sc (.int .i64 r.1))])], [.ow 3 (List.map e_S_Step r.2)]) := by
  unfold laws_markStepS at h
  refine FL_goS (A := [(0, .v false [.own 0 0 0]), (1, .v false [.im 2 (.sc (.int .i64 k_1))])]) (B := [(0, some ⟨0, 0, true, false, false, false, [⟨.sh, 0, 0, .row 3 (List.map e_S_Step a_0)⟩]⟩), (1, none)]) (nt := 34) rfl rfl Try.func45 rfl rfl rfl rfl ?_
  refine Go.seq ?_
  refine Go.r0 c45 rfl rfl (sq z45 (oAsI rfl rfl) <| nl) ?_
  refine Unw.seq ?_
  refine Go.seq ?_
  refine Go.seq ?_
  refine Go.r0 c45 rfl rfl (sq z45 (oAsI rfl rfl) <| nl) ?_
  refine Unw.seq ?_
  refine Go.block ?_
  obtain ⟨o, hl, h⟩ := bs h
  refine Go.lp c45 rfl _ (fun (s : (Int × Int × (List S_Step))) => match s with | (k_1_l2, i_5_l2, a_o0_l2) => mk [(0, .v false [.own 0 0 0]), (1, iv k_1_l2), (5, iv i_5_l2)] [(0, some ⟨0, 0, true, false, false, false, [⟨.sh, 0, 0, .row 3 (List.map e_S_Step a_o0_l2)⟩]⟩)]) (fun (o : (Int × (List S_Step))) (p : Ex × St) => match o with | (k_1_e0_2, a_o0_e0_2) => p.1 = .exit 0 ∧ p.2.norm ([1], [0]) = mk [(1, iv k_1_e0_2)] [(0, some ⟨0, 0, true, false, false, false, [⟨.sh, 0, 0, .row 3 (List.map e_S_Step a_o0_e0_2)⟩]⟩)]) hl (by kernel_rfl) ?_ ?_ ?_
  · intro o p hp e
    obtain ⟨k_1_e0_2, a_o0_e0_2⟩ := o
    exact nomatch (hp.1.symm.trans e)
  · rintro ⟨k_1_l2, i_5_l2, a_o0_l2⟩ o h
    unfold laws_markStepS_l2 at h
    dsimp only at h
    refine Go.seq ?_
    refine Go.seq ?_
    refine Go.r0 c45 rfl rfl (sq z45 (oMv rfl rfl) <| sq z45 (oMv rfl rfl) <| sq z45 (oLnO rfl rfl uF63 rfl rfl rfl (fun e => nomatch e)) <| sq z45 (oBi rfl rfl rfl rfl) <| nl) ?_
    refine Unw.seq ?_
    by_cases hc3 : i_5_l2 < (a_o0_l2.length : Int)
    · rw [if_pos hc3] at h
      refine Go.condT rfl (iDec.2 hc3) ?_
      refine Go.skip ?_
      refine Unw.seq ?_
      refine Go.seq ?_
      refine Go.block ?_
      refine Go.seq ?_
      obtain ⟨x15, hx15, h⟩ := bs h
      refine Go.r0 c45 rfl rfl (sq z45 (oMv rfl rfl) <| sq z45 (oMv rfl rfl) <| sq z45 (oMv rfl rfl) <| sq z45 (oIAO rfl hx15 sF63 rfl rfl rfl rfl) <| sq z45 (oFA (r' := .mpe 0 0 0 _ 0) rfl fF178_0 rfl rfl) <| sq z45 (oStE (v' := (⟨k_1_l2, x15.A, x15.B⟩ : S_Step)) tF2 rfl rfl rfl (fxI fx0) rfl rfl (rd_get hx15) rfl) <| nl) ?_
      refine Unw.seq ?_
      refine Go.seq ?_
      refine Go.r1 c45 rfl rfl (st1 := mk [(0, .v false [.own 0 0 0]), (1, iv k_1_l2), (5, iv i_5_l2)] [(0, some ⟨0, 0, true, false, false, false, [⟨.sh, 0, 0, .row 3 (List.map e_S_Step (a_o0_l2.set i_5_l2.toNat (⟨k_1_l2, x15.A, x15.B⟩ : S_Step)))⟩]⟩)]) (by kernel_rfl) (sq z45 (oMv rfl rfl) <| sq z45 (oBi rfl rfl rfl rfl) <| sq z45 (oAsI rfl rfl) <| nl) ?_
      refine Unw.seq ?_
      refine Go.seq ?_
      obtain ⟨x22, hx22, h⟩ := bs h
      refine Go.r0 c45 rfl rfl (sq z45 (oMv rfl rfl) <| sq z45 (oMv rfl rfl) <| sq z45 (oMv rfl rfl) <| sq z45 (oIAO rfl hx22 sF63 rfl rfl rfl rfl) <| sq z45 (oFA (r' := .mpe 0 0 0 _ 1) rfl fF178_1 rfl rfl) <| sq z45 (oStE (v' := (⟨x22.Kind, (w64 (k_1_l2 + 1)), x22.B⟩ : S_Step)) tF2 rfl rfl rfl (fxI fx0) rfl rfl (rd_get hx22) rfl) <| nl) ?_
      refine Unw.seq ?_
      refine Go.seq ?_
      refine Go.r1 c45 rfl rfl (st1 := mk [(0, .v false [.own 0 0 0]), (1, iv (w64 (k_1_l2 + 1))), (5, iv i_5_l2)] [(0, some ⟨0, 0, true, false, false, false, [⟨.sh, 0, 0, .row 3 (List.map e_S_Step ((a_o0_l2.set i_5_l2.toNat (⟨k_1_l2, x15.A, x15.B⟩ : S_Step)).set i_5_l2.toNat (⟨x22.Kind, (w64 (k_1_l2 + 1)), x22.B⟩ : S_Step)))⟩]⟩)]) (by kernel_rfl) (sq z45 (oMv rfl rfl) <| sq z45 (oBi rfl rfl rfl rfl) <| sq z45 (oAsI rfl rfl) <| nl) ?_
      refine Unw.seq ?_
      refine Go.seq ?_
      obtain ⟨x29, hx29, h⟩ := bs h
      refine Go.r0 c45 rfl rfl (sq z45 (oMv rfl rfl) <| sq z45 (oMv rfl rfl) <| sq z45 (oMv rfl rfl) <| sq z45 (oIAO rfl hx29 sF63 rfl rfl rfl rfl) <| sq z45 (oFA (r' := .mpe 0 0 0 _ 2) rfl fF178_2 rfl rfl) <| sq z45 (oStE (v' := (⟨x29.Kind, x29.A, (w64 ((w64 (k_1_l2 + 1)) + 1))⟩ : S_Step)) tF2 rfl rfl rfl (fxI fx0) rfl rfl (rd_get hx29) rfl) <| nl) ?_
      refine Unw.seq ?_
      refine Go.r1 c45 rfl rfl (st1 := mk [(0, .v false [.own 0 0 0]), (1, iv (w64 ((w64 (k_1_l2 + 1)) + 1))), (5, iv i_5_l2)] [(0, some ⟨0, 0, true, false, false, false, [⟨.sh, 0, 0, .row 3 (List.map e_S_Step (((a_o0_l2.set i_5_l2.toNat (⟨k_1_l2, x15.A, x15.B⟩ : S_Step)).set i_5_l2.toNat (⟨x22.Kind, (w64 (k_1_l2 + 1)), x22.B⟩ : S_Step)).set i_5_l2.toNat (⟨x29.Kind, x29.A, (w64 ((w64 (k_1_l2 + 1)) + 1))⟩ : S_Step)))⟩]⟩)]) (by kernel_rfl) (sq z45 (oMv rfl rfl) <| sq z45 (oBi rfl rfl rfl rfl) <| sq z45 (oAsI rfl rfl) <| nl) ?_
      refine Unw.blk ?_
      refine Unw.seq ?_
      refine Go.r0 c45 rfl rfl (sq z45 (oMv rfl rfl) <| sq z45 (oBi rfl rfl rfl rfl) <| sq z45 (oAsI rfl rfl) <| nl) ?_
      refine Unw.nil ?_
      cases h
      exact ⟨rfl, (by kernel_rfl)⟩
    · rw [if_neg hc3] at h
      refine Go.condF rfl (byF iDec hc3) ?_
      refine Go.exit ?_
      refine Unw.seqx ?_
      refine Unw.nil ?_
      cases h
      exact ⟨rfl, (by kernel_rfl)⟩
  · rintro ⟨e, st⟩ hp
    obtain ⟨k_1_e0_2, a_o0_e0_2⟩ := o
    dsimp only at h
    obtain ⟨he, hst⟩ := hp
    obtain rfl : e = .exit 0 := he
    refine Unw.blkx ?_
    refine Unw.seq ?_
    refine Go.seq ?_
    refine Go.r1 c45 rfl rfl hst (sq z45 (oMv rfl rfl) <| sq z45 (oAsI rfl rfl) <| nl) ?_
    refine Unw.seq ?_
    refine Go.ret (Unw.ret ?_)
    cases h
    exact Fin_ret (fin_of rfl rF45 rfl (by kernel_rfl))
theorem L_laws_heldStepS {a_0 : (List S_Step)} {k_1 : Int} {r : Int} (h : laws_heldStepS a_0 k_1 = some r) : FL Try.prog cfg 46 [.im 2 false [.row 3 (List.map e_S_Step a_0)], .im 2 false [.sc (.int .i64 k_1)]] = some ([(false, [.im 0 (.sc (.int .i64 r))])], []) := by
  unfold laws_heldStepS at h
  refine FL_goS (A := [(0, .v false [.im 2 (.row 3 (List.map e_S_Step a_0))]), (1, .v false [.im 2 (.sc (.int .i64 k_1))])]) (B := [(0, none), (1, none)]) (nt := 40) rfl rfl Try.func46 rfl rfl rfl rfl ?_
  refine Go.seq ?_
  refine Go.r0 c46 rfl rfl (sq z46 (oAsI rfl rfl) <| nl) ?_
  refine Unw.seq ?_
  refine Go.seq ?_
  refine Go.seq ?_
  refine Go.r0 c46 rfl rfl (sq z46 (oAsI rfl rfl) <| nl) ?_
  refine Unw.seq ?_
  refine Go.block ?_
  obtain ⟨o, hl, h⟩ := bs h
  refine Go.lp c46 rfl _ (fun (s : (Int × Int)) => match s with | (k_1_l2, i_5_l2) => mk [(0, .v false [.im 2 (.row 3 (List.map e_S_Step a_0))]), (1, iv k_1_l2), (5, iv i_5_l2)] []) (fun (o : (Int ⊕ Int)) (p : Ex × St) => match o with | (.inl k_1_e0_2) => p.1 = .exit 0 ∧ p.2.norm ([1], []) = mk [(1, iv k_1_e0_2)] [] | (.inr r2) => p.1 = .ret ∧ fin Try.prog cfg 46 Try.f46 [.im 2 false [.row 3 (List.map e_S_Step a_0)], .im 2 false [.sc (.int .i64 k_1)]] p.2 = some ([(false, [.im 0 (.sc (.int .i64 r2))])], [])) hl (by kernel_rfl) ?_ ?_ ?_
  · intro o p hp e
    rcases o with k_1_e0_2 | r2 <;> exact nomatch (hp.1.symm.trans e)
  · rintro ⟨k_1_l2, i_5_l2⟩ o h
    unfold laws_heldStepS_l2 at h
    dsimp only at h
    refine Go.seq ?_
    refine Go.seq ?_
    refine Go.r0 c46 rfl rfl (sq z46 (oMv rfl rfl) <| sq z46 (oMv rfl rfl) <| sq z46 (oLnI rfl rfl uF63 rfl) <| sq z46 (oBi rfl rfl rfl rfl) <| nl) ?_
    refine Unw.seq ?_
    by_cases hc9 : i_5_l2 < (a_0.length : Int)
    · rw [if_pos hc9] at h
      refine Go.condT rfl (iDec.2 hc9) ?_
      refine Go.skip ?_
      refine Unw.seq ?_
      refine Go.seq ?_
      refine Go.block ?_
      refine Go.seq ?_
      refine Go.seq ?_
      obtain ⟨x14, hx14, h⟩ := bs h
      refine Go.r0 c46 rfl rfl (sq z46 (oMv rfl rfl) <| sq z46 (oMv rfl rfl) <| sq z46 (oIAI rfl hx14 sF63 rfl rfl) <| sq z46 (oFA (r' := .im 2 _) rfl fF178_0 rfl rfl) <| sq z46 (oLd (cs := [.im 2 _]) rfl tF2 rfl rfl) <| sq z46 (oMv rfl rfl) <| sq z46 (oBi rfl rfl rfl rfl) <| nl) ?_
      refine Unw.seq ?_
      by_cases hc10 : x14.Kind ≠ k_1_l2
      · rw [if_pos hc10] at h
        refine Go.condT rfl (iNe.2 hc10) ?_
        refine Go.seq ?_
        refine Go.r0 c46 rfl rfl (sq z46 (oAsI rfl rfl) <| nl) ?_
        refine Unw.seq ?_
        refine Go.ret (Unw.ret ?_)
        cases h
        exact ⟨rfl, (fin_of rfl rF46 rfl (by kernel_rfl))⟩
      · rw [if_neg hc10] at h
        refine Go.condF rfl (byF iNe hc10) ?_
        refine Go.skip ?_
        refine Unw.seq ?_
        refine Go.seq ?_
        refine Go.r0 c46 rfl rfl (sq z46 (oMv rfl rfl) <| sq z46 (oBi rfl rfl rfl rfl) <| sq z46 (oAsI rfl rfl) <| nl) ?_
        refine Unw.seq ?_
        refine Go.seq ?_
        refine Go.seq ?_
        obtain ⟨x23, hx23, h⟩ := bs h
        refine Go.r0 c46 rfl rfl (sq z46 (oMv rfl rfl) <| sq z46 (oMv rfl rfl) <| sq z46 (oIAI rfl hx23 sF63 rfl rfl) <| sq z46 (oFA (r' := .im 2 _) rfl fF178_1 rfl rfl) <| sq z46 (oLd (cs := [.im 2 _]) rfl tF2 rfl rfl) <| sq z46 (oMv rfl rfl) <| sq z46 (oBi rfl rfl rfl rfl) <| nl) ?_
        refine Unw.seq ?_
        by_cases hc11 : x23.A ≠ (w64 (k_1_l2 + 1))
        · rw [if_pos hc11] at h
          refine Go.condT rfl (iNe.2 hc11) ?_
          refine Go.seq ?_
          refine Go.r0 c46 rfl rfl (sq z46 (oAsI rfl rfl) <| nl) ?_
          refine Unw.seq ?_
          refine Go.ret (Unw.ret ?_)
          cases h
          exact ⟨rfl, (fin_of rfl rF46 rfl (by kernel_rfl))⟩
        · rw [if_neg hc11] at h
          refine Go.condF rfl (byF iNe hc11) ?_
          refine Go.skip ?_
          refine Unw.seq ?_
          refine Go.seq ?_
          refine Go.r0 c46 rfl rfl (sq z46 (oMv rfl rfl) <| sq z46 (oBi rfl rfl rfl rfl) <| sq z46 (oAsI rfl rfl) <| nl) ?_
          refine Unw.seq ?_
          refine Go.seq ?_
          refine Go.seq ?_
          obtain ⟨x32, hx32, h⟩ := bs h
          refine Go.r0 c46 rfl rfl (sq z46 (oMv rfl rfl) <| sq z46 (oMv rfl rfl) <| sq z46 (oIAI rfl hx32 sF63 rfl rfl) <| sq z46 (oFA (r' := .im 2 _) rfl fF178_2 rfl rfl) <| sq z46 (oLd (cs := [.im 2 _]) rfl tF2 rfl rfl) <| sq z46 (oMv rfl rfl) <| sq z46 (oBi rfl rfl rfl rfl) <| nl) ?_
          refine Unw.seq ?_
          by_cases hc12 : x32.B ≠ (w64 ((w64 (k_1_l2 + 1)) + 1))
          · rw [if_pos hc12] at h
            refine Go.condT rfl (iNe.2 hc12) ?_
            refine Go.seq ?_
            refine Go.r0 c46 rfl rfl (sq z46 (oAsI rfl rfl) <| nl) ?_
            refine Unw.seq ?_
            refine Go.ret (Unw.ret ?_)
            cases h
            exact ⟨rfl, (fin_of rfl rF46 rfl (by kernel_rfl))⟩
          · rw [if_neg hc12] at h
            refine Go.condF rfl (byF iNe hc12) ?_
            refine Go.skip ?_
            refine Unw.seq ?_
            refine Go.r0 c46 rfl rfl (sq z46 (oMv rfl rfl) <| sq z46 (oBi rfl rfl rfl rfl) <| sq z46 (oAsI rfl rfl) <| nl) ?_
            refine Unw.blk ?_
            refine Unw.seq ?_
            refine Go.r0 c46 rfl rfl (sq z46 (oMv rfl rfl) <| sq z46 (oBi rfl rfl rfl rfl) <| sq z46 (oAsI rfl rfl) <| nl) ?_
            refine Unw.nil ?_
            cases h
            exact ⟨rfl, (by kernel_rfl)⟩
    · rw [if_neg hc9] at h
      refine Go.condF rfl (byF iDec hc9) ?_
      refine Go.exit ?_
      refine Unw.seqx ?_
      refine Unw.nil ?_
      cases h
      exact ⟨rfl, (by kernel_rfl)⟩
  · rintro ⟨e, st⟩ hp
    rcases o with k_1_e0_2 | r2
    · dsimp only at h
      obtain ⟨he, hst⟩ := hp
      obtain rfl : e = .exit 0 := he
      refine Unw.blkx ?_
      refine Unw.seq ?_
      refine Go.seq ?_
      refine Go.r1 c46 rfl rfl hst (sq z46 (oMv rfl rfl) <| sq z46 (oAsI rfl rfl) <| nl) ?_
      refine Unw.seq ?_
      refine Go.ret (Unw.ret ?_)
      cases h
      exact Fin_ret (fin_of rfl rF46 rfl (by kernel_rfl))
    · dsimp only at h
      obtain ⟨he, hfin⟩ := hp
      obtain rfl : e = .ret := he
      cases h
      exact Unw.ret (Fin_ret hfin)
end
end Go.Proofs.Ytigjhjlkdamncaa
