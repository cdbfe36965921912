/- The machine answers, at each function of the program that is reached, what its plain function answers. Conditions: none. -/
import Derived.Test.YteglmkbkjaeijabProg
import Derived.KernelRfl
import Derived.Test.YteglmkbkjaeijabSimRf
import Derived.Test.YteglmkbkjaeijabTbfT
namespace Go.Proofs.Yteglmkbkjaeijab
open Go Go.Sim Go.Pw Go.Proofs
set_option linter.unusedVariables false
set_option linter.unusedSimpArgs false
set_option maxRecDepth 100000
set_option maxHeartbeats 4000000
noncomputable section

def e_S_Room (x : S_Room) : AV := .agg [.sc (.int .i64 x.Width), .sc (.int .i64 x.Length)]
def e_S_Stock (x : S_Stock) : AV := .agg [.sc (.int .i64 x.Board), .sc (.int .i64 x.Wide), .sc (.int .i64 x.Least), .sc (.int .i64 x.Stagger)]
def e_S_l30Search (x : S_l30Search) : AV := .agg [.cp [.sc (.int .i64 x.r.Width), .sc (.int .i64 x.r.Length)] 0, .cp [.sc (.int .i64 x.k.Board), .sc (.int .i64 x.k.Wide), .sc (.int .i64 x.k.Least), .sc (.int .i64 x.k.Stagger)] 0, .sc (.int .i64 x.n), .sc (.int .i64 x.step), .row 1 (List.map eI x.firsts), .row 1 (List.map eI x.best), .sc (.int .i64 x.least), .sc (.int .i64 x.nodes), .sc (.int .i64 x.budget), .sc (.bool x.full)]
def e_S_floorSearch (x : S_floorSearch) : AV := .agg [.sc (.int .i64 x.room.Width), .sc (.int .i64 x.room.Length), .sc (.int .i64 x.stock.Board), .sc (.int .i64 x.stock.Wide), .sc (.int .i64 x.stock.Least), .sc (.int .i64 x.stock.Stagger), .sc (.int .i64 x.step), .sc (.int .i64 x.rows), .sc (.int .i64 x.left), .sc (.bool x.found), .row 1 (List.map eI x.best), .sc (.int .i64 x.least)]
def e_S_row (x : S_row) : AV := .agg [.row 1 (List.map eI x.pieces), .row 1 (List.map eI x.joints), .sc (.int .i64 x.last)]

def fc6 : FCfg := { par := [.cst false, .cst false, .cst false, .cst false], inn := [(7, some ([2, 3, 4, 5, 9, 10, 11, 12, 15], [4, 5, 9, 12]))], out := [(1, some ([2, 3, 4, 5, 9, 10, 11], [4, 5, 9])), (2, some ([2, 3, 4, 5, 9, 10, 11, 12, 13, 14], [4, 5, 9, 12])), (3, some ([2, 3, 4, 5, 9, 10, 11, 12, 55], [4, 5, 9, 12])), (13, some ([9, 10, 11, 12, 15, 17, 18, 19], [9, 12, 17])), (14, some ([12, 15, 91], [12]))], loopK := [], frz := [], sch := [(1, .first 0 [1, 3, 6, 7, 8, 9, 10, 11, 12, 13] [2, 4, 5] (.first 2 [3, 6, 7, 8, 9, 10, 11, 12, 13] [1, 4, 5] (.first 4 [6, 7, 8, 9, 10, 11, 12, 13] [1, 3, 5] (.first 5 [6, 7, 8, 9, 10, 11, 12, 13] [1, 3] (.fork 1 (.fork 3 (.fork 6 (.first 7 [8, 9, 10, 11, 12, 13] [] (.first 8 [11, 12, 13] [9, 10] (.fork 9 (.fork 10 (.fork 11 (.fork 12 (.fork 13 (.done) (.stop)) (.stop)) (.stop)) (.fork 11 (.fork 10 (.fork 12 (.fork 13 (.done) (.stop)) (.stop)) (.fork 12 (.first 10 [13] [] (.fork 13 (.done) (.stop))) (.stop))) (.stop))) (.fork 10 (.fork 9 (.fork 11 (.fork 12 (.fork 13 (.done) (.stop)) (.stop)) (.stop)) (.fork 11 (.first 9 [12, 13] [] (.fork 12 (.fork 13 (.done) (.stop)) (.stop))) (.stop))) (.fork 11 (.first 9 [12, 13] [10] (.fork 10 (.fork 12 (.fork 13 (.done) (.stop)) (.stop)) (.fork 12 (.first 10 [13] [] (.fork 13 (.done) (.stop))) (.stop)))) (.stop)))))) (.stop)) (.stop)) (.stop)))))), (2, .first 0 [1, 3, 6, 7, 8, 9, 10, 11, 12, 13] [2, 4, 5] (.first 2 [3, 6, 7, 8, 9, 10, 11, 12, 13] [1, 4, 5] (.first 4 [6, 7, 8, 9, 10, 11, 12, 13] [1, 3, 5] (.first 5 [6, 7, 8, 9, 10, 11, 12, 13] [1, 3] (.fork 1 (.fork 3 (.fork 6 (.first 7 [8, 9, 10, 11, 12, 13] [] (.first 8 [11, 12, 13] [9, 10] (.fork 9 (.fork 10 (.fork 11 (.fork 12 (.fork 13 (.done) (.stop)) (.stop)) (.stop)) (.fork 11 (.fork 10 (.fork 12 (.fork 13 (.done) (.stop)) (.stop)) (.fork 12 (.first 10 [13] [] (.fork 13 (.done) (.stop))) (.stop))) (.stop))) (.fork 10 (.fork 9 (.fork 11 (.fork 12 (.fork 13 (.done) (.stop)) (.stop)) (.stop)) (.fork 11 (.first 9 [12, 13] [] (.fork 12 (.fork 13 (.done) (.stop)) (.stop))) (.stop))) (.fork 11 (.first 9 [12, 13] [10] (.fork 10 (.fork 12 (.fork 13 (.done) (.stop)) (.stop)) (.fork 12 (.first 10 [13] [] (.fork 13 (.done) (.stop))) (.stop)))) (.stop)))))) (.stop)) (.stop)) (.stop)))))), (13, .first 0 [1, 3, 6, 7, 8, 9, 10, 11, 12, 13] [2, 4, 5] (.first 2 [3, 6, 7, 8, 9, 10, 11, 12, 13] [1, 4, 5] (.first 4 [6, 7, 8, 9, 10, 11, 12, 13] [1, 3, 5] (.first 5 [6, 7, 8, 9, 10, 11, 12, 13] [1, 3] (.fork 1 (.fork 3 (.fork 6 (.first 7 [8, 9, 10, 11, 12, 13] [] (.first 8 [11, 12, 13] [9, 10] (.fork 9 (.fork 10 (.fork 11 (.fork 12 (.fork 13 (.done) (.stop)) (.stop)) (.stop)) (.fork 11 (.fork 10 (.fork 12 (.fork 13 (.done) (.stop)) (.stop)) (.fork 12 (.first 10 [13] [] (.fork 13 (.done) (.stop))) (.stop))) (.stop))) (.fork 10 (.fork 9 (.fork 11 (.fork 12 (.fork 13 (.done) (.stop)) (.stop)) (.stop)) (.fork 11 (.first 9 [12, 13] [] (.fork 12 (.fork 13 (.done) (.stop)) (.stop))) (.stop))) (.fork 11 (.first 9 [12, 13] [10] (.fork 10 (.fork 12 (.fork 13 (.done) (.stop)) (.stop)) (.fork 12 (.first 10 [13] [] (.fork 13 (.done) (.stop))) (.stop)))) (.stop)))))) (.stop)) (.stop)) (.stop))))))] }
def fc8 : FCfg := { par := [.cst false], inn := [(3, some ([1, 2, 3], [1, 2, 3])), (4, some ([2, 3], [2, 3]))], out := [], loopK := [], frz := [], sch := [] }
def fc9 : FCfg := { par := [.cst false], inn := [(3, some ([1, 2, 3], [1, 2, 3])), (4, some ([1, 2, 3], [1, 2, 3])), (5, some ([1, 2, 3], [1, 2, 3])), (6, some ([2, 3], [2, 3]))], out := [], loopK := [], frz := [], sch := [] }
def fc12 : FCfg := { par := [.cst false, .cst false], inn := [(8, some ([], []))], out := [(6, some ([0, 1, 5, 25], []))], loopK := [(4, ([0, 1, 5], []))], frz := [], sch := [(6, .first 0 [2, 3, 8] [1, 4, 5, 6, 7] (.first 1 [2, 3, 8] [4, 5, 6, 7] (.first 2 [3, 8] [4, 5, 6, 7] (.first 3 [8] [4, 5, 6, 7] (.first 4 [6, 7, 8] [5] (.first 5 [6, 7, 8] [] (.first 6 [7, 8] [] (.first 7 [8] [] (.first 8 [] [] (.done))))))))))] }
def fc15 : FCfg := { par := [.row, .cst false], inn := [(5, some ([0, 1, 5], [0])), (6, some ([1], [0]))], out := [], loopK := [(2, ([0, 1, 5], [0]))], frz := [], sch := [] }
def fc16 : FCfg := { par := [.cst false, .cst false], inn := [(7, some ([1], []))], out := [], loopK := [(2, ([0, 1, 5], []))], frz := [], sch := [] }
def fc19 : FCfg := { par := [.cst false, .cst false, .cst false, .cst false], inn := [(9, some ([12], [32])), (10, some ([12], [32]))], out := [(6, some ([2, 3, 4, 5, 11, 27], [4, 5])), (14, some ([8, 9, 10], [8]))], loopK := [], frz := [], sch := [(14, .first 0 [1, 2, 3, 8, 9, 10] [4, 5, 6, 7] (.first 1 [2, 3, 8, 9, 10] [4, 5, 6, 7] (.first 2 [3, 8, 9, 10] [4, 5, 6, 7] (.first 3 [8, 9, 10] [4, 5, 6, 7] (.first 4 [5, 6, 7, 9, 10] [8] (.fork 5 (.fork 6 (.fork 7 (.fork 8 (.fork 9 (.fork 10 (.done) (.stop)) (.stop)) (.stop)) (.fork 8 (.first 7 [9, 10] [] (.fork 9 (.fork 10 (.done) (.stop)) (.stop))) (.stop))) (.fork 8 (.first 6 [7, 9, 10] [] (.first 7 [9, 10] [] (.fork 9 (.fork 10 (.done) (.stop)) (.stop)))) (.stop))) (.fork 8 (.first 5 [6, 7, 9, 10] [] (.first 6 [7, 9, 10] [] (.first 7 [9, 10] [] (.fork 9 (.fork 10 (.done) (.stop)) (.stop))))) (.stop))))))))] }
def fc20 : FCfg := { par := [.cst false, .cst false, .cst false, .cst false], inn := [(4, some ([2, 3, 4, 5, 11, 12], [4, 5])), (7, some ([13], [43])), (8, some ([], [])), (9, some ([13], [43]))], out := [(2, some ([2, 3, 4, 5, 11, 12, 33], [4, 5])), (11, some ([8, 9, 10], [8]))], loopK := [], frz := [], sch := [(11, .first 0 [1, 2, 3, 8, 9, 10] [4, 5, 6, 7] (.first 1 [2, 3, 8, 9, 10] [4, 5, 6, 7] (.first 2 [3, 8, 9, 10] [4, 5, 6, 7] (.first 3 [8, 9, 10] [4, 5, 6, 7] (.first 4 [5, 6, 7, 9, 10] [8] (.fork 5 (.fork 6 (.fork 7 (.fork 8 (.fork 9 (.fork 10 (.done) (.stop)) (.stop)) (.stop)) (.fork 8 (.first 7 [9, 10] [] (.fork 9 (.fork 10 (.done) (.stop)) (.stop))) (.stop))) (.fork 8 (.first 6 [7, 9, 10] [] (.first 7 [9, 10] [] (.fork 9 (.fork 10 (.done) (.stop)) (.stop)))) (.stop))) (.fork 8 (.first 5 [6, 7, 9, 10] [] (.first 6 [7, 9, 10] [] (.first 7 [9, 10] [] (.fork 9 (.fork 10 (.done) (.stop)) (.stop))))) (.stop))))))))] }
def fc21 : FCfg := { par := [.cst false, .cst false], inn := [], out := [(1, some ([4], []))], loopK := [], frz := [], sch := [] }
def fc24 : FCfg := { par := [.cst false, .cst false], inn := [], out := [(1, some ([12], []))], loopK := [], frz := [], sch := [] }
def fc26 : FCfg := { par := [.cst false, .cst false, .cst false], inn := [(4, some ([7], []))], out := [(2, some ([7, 18], []))], loopK := [], frz := [], sch := [(2, .first 0 [1, 2, 3, 7] [4, 5, 6] (.first 1 [2, 3, 7] [4, 5, 6] (.first 2 [3, 7] [4, 5, 6] (.first 3 [7] [4, 5, 6] (.first 4 [6, 7] [5] (.first 5 [6, 7] [] (.fork 6 (.first 7 [] [] (.done)) (.stop))))))))] }
def fc27 : FCfg := { par := [.cst false, .cst false], inn := [], out := [(1, some ([4], []))], loopK := [], frz := [], sch := [(1, .first 0 [1, 2, 3, 8, 9] [4, 5, 6, 7] (.first 1 [2, 3, 8, 9] [4, 5, 6, 7] (.first 2 [3, 8, 9] [4, 5, 6, 7] (.first 3 [8, 9] [4, 5, 6, 7] (.first 4 [5, 6, 7, 8, 9] [] (.first 5 [6, 7, 8, 9] [] (.first 6 [7, 8, 9] [] (.first 7 [8, 9] [] (.fork 8 (.fork 9 (.done) (.stop)) (.stop))))))))))] }
def fc28 : FCfg := { par := [.cst false, .cst false], inn := [], out := [(3, some ([4], []))], loopK := [], frz := [], sch := [(3, .first 0 [1, 2, 3, 10, 11] [4, 5, 6, 7, 8, 9] (.first 1 [2, 3, 10, 11] [4, 5, 6, 7, 8, 9] (.first 2 [3, 10, 11] [4, 5, 6, 7, 8, 9] (.first 3 [10, 11] [4, 5, 6, 7, 8, 9] (.first 4 [8, 9, 10, 11] [5, 6, 7] (.first 5 [6, 7, 8, 9, 10, 11] [] (.first 6 [7, 8, 9, 10, 11] [] (.first 7 [8, 9, 10, 11] [] (.first 8 [9, 10, 11] [] (.first 9 [10, 11] [] (.first 10 [11] [] (.fork 11 (.done) (.stop)))))))))))))] }
def fc29 : FCfg := { par := [.cst false, .cst false, .cst false], inn := [(10, some ([1, 8, 9], [8]))], out := [(1, some ([0, 1, 2, 20], []))], loopK := [(7, ([1, 8, 9], [8]))], frz := [], sch := [(1, .first 0 [9, 10] [1, 2, 3, 4, 5, 6, 7, 8] (.first 1 [2, 3, 4, 9, 10] [5, 6, 7, 8] (.first 2 [3, 4, 9, 10] [5, 6, 7, 8] (.first 3 [4, 9, 10] [5, 6, 7, 8] (.first 4 [9, 10] [5, 6, 7, 8] (.first 5 [6, 7, 8, 9, 10] [] (.first 6 [7, 8, 9, 10] [] (.first 7 [8, 9, 10] [] (.first 8 [9, 10] [] (.fork 9 (.first 10 [] [] (.done)) (.stop)))))))))))] }
def fc30 : FCfg := { par := [.cst false, .cst false, .cst false], inn := [(11, some ([], []))], out := [(5, some ([0, 7, 8, 9, 10, 24], [7, 8])), (6, some ([0, 7, 8, 9, 10, 48], [7, 8])), (8, some ([0, 7, 8, 9, 10, 57], [7, 8]))], loopK := [(5, ([0, 7, 8, 9, 10], [7, 8]))], frz := [], sch := [(6, .first 0 [2, 3, 8, 18, 23] [1, 4, 5, 6, 7, 9, 10, 11, 12, 13, 14, 15, 16, 17, 19, 20, 21, 22] (.first 1 [2, 3, 8, 18, 23] [4, 5, 6, 7, 9, 10, 11, 12, 13, 14, 15, 16, 17, 19, 20, 21, 22] (.first 2 [3, 8, 18, 23] [4, 5, 6, 7, 9, 10, 11, 12, 13, 14, 15, 16, 17, 19, 20, 21, 22] (.first 3 [8, 18, 23] [4, 5, 6, 7, 9, 10, 11, 12, 13, 14, 15, 16, 17, 19, 20, 21, 22] (.first 4 [6, 7, 8, 18, 23] [5, 9, 10, 11, 12, 13, 14, 15, 16, 17, 19, 20, 21, 22] (.first 5 [6, 7, 8, 18, 23] [9, 10, 11, 12, 13, 14, 15, 16, 17, 19, 20, 21, 22] (.first 6 [7, 8, 18, 23] [9, 10, 11, 12, 13, 14, 15, 16, 17, 19, 20, 21, 22] (.first 7 [8, 18, 23] [9, 10, 11, 12, 13, 14, 15, 16, 17, 19, 20, 21, 22] (.first 8 [18, 23] [9, 10, 11, 12, 13, 14, 15, 16, 17, 19, 20, 21, 22] (.first 9 [11, 12, 17, 18, 23] [10, 13, 14, 15, 16, 19, 20, 21, 22] (.first 10 [11, 12, 17, 18, 23] [13, 14, 15, 16, 19, 20, 21, 22] (.first 11 [12, 17, 18, 23] [13, 14, 15, 16, 19, 20, 21, 22] (.first 12 [17, 18, 23] [13, 14, 15, 16, 19, 20, 21, 22] (.first 13 [15, 16, 17, 18, 23] [14, 19, 20, 21, 22] (.first 14 [15, 16, 17, 18, 23] [19, 20, 21, 22] (.first 15 [16, 17, 18, 23] [19, 20, 21, 22] (.first 16 [17, 18, 23] [19, 20, 21, 22] (.first 17 [18, 23] [19, 20, 21, 22] (.first 19 [20, 21, 22, 23] [18] (.first 20 [21, 22, 23] [18] (.first 21 [22, 23] [18] (.first 22 [23] [18] (.fork 18 (.first 23 [] [] (.done)) (.stop)))))))))))))))))))))))), (8, .first 0 [2, 3, 8] [1, 4, 5, 6, 7] (.first 1 [2, 3, 8] [4, 5, 6, 7] (.first 2 [3, 8] [4, 5, 6, 7] (.first 3 [8] [4, 5, 6, 7] (.first 4 [6, 7, 8] [5] (.first 5 [6, 7, 8] [] (.first 6 [7, 8] [] (.first 7 [8] [] (.first 8 [] [] (.done))))))))))] }
def fc31 : FCfg := { par := [.cst false, .cst false], inn := [], out := [], loopK := [], frz := [], sch := [] }
def fc32 : FCfg := { par := [.cst false, .cst false], inn := [], out := [], loopK := [], frz := [], sch := [] }
def fc33 : FCfg := { par := [.cst false, .cst false, .cst false, .cst false], inn := [(2, some ([2, 5, 8, 10, 11], [5, 8, 10]))], out := [(2, some ([8, 9], [8]))], loopK := [], frz := [], sch := [(2, .first 0 [15, 16] [1, 2, 3, 4, 5, 6, 7, 8, 9, 10, 11, 12, 13, 14] (.first 1 [2, 3, 4, 5, 6, 7, 8, 9, 10, 11, 12, 13, 14, 15, 16] [] (.first 2 [3, 4, 5, 6, 7, 8, 9, 10, 11, 12, 13, 14, 15, 16] [] (.first 3 [4, 5, 6, 7, 8, 9, 10, 11, 12, 13, 14, 15, 16] [] (.first 4 [5, 6, 7, 8, 9, 10, 11, 12, 13, 14, 15, 16] [] (.first 5 [6, 7, 8, 9, 10, 11, 12, 13, 14, 15, 16] [] (.first 6 [7, 8, 9, 10, 11, 12, 13, 14, 15, 16] [] (.first 7 [8, 9, 12, 13, 14, 15, 16] [10, 11] (.first 8 [9, 12, 13, 14, 15, 16] [10, 11] (.first 9 [12, 13, 14, 15, 16] [10, 11] (.first 10 [12, 13, 14, 15, 16] [11] (.first 11 [12, 13, 14, 15, 16] [] (.fork 12 (.first 13 [14, 16] [15] (.first 14 [16] [15] (.fork 15 (.fork 16 (.done) (.stop)) (.stop)))) (.stop))))))))))))))] }
def fc35 : FCfg := { par := [.cst false, .cst false, .cst false], inn := [], out := [(1, some ([6], []))], loopK := [], frz := [], sch := [] }
def fc36 : FCfg := { par := [.ptr [.imm, .imm, .imm, .imm, .sh, .sh, .imm, .imm, .imm, .imm], .cst false, .cst false], inn := [(3, some ([0], [0])), (6, some ([0, 1, 2, 6, 7], [0])), (14, some ([0, 1, 2, 6, 7, 8, 10], [0, 8])), (15, some ([0, 1, 2, 6, 7, 8, 10], [0, 8])), (16, some ([0, 1, 2, 6, 7], [0]))], out := [(5, some ([0, 1, 2, 6, 7, 56], [0])), (7, some ([0, 1, 2, 6, 7, 8, 9], [0, 8])), (8, some ([0, 1, 2, 6, 7, 8, 87], [0, 8])), (10, some ([0, 1, 2, 6, 7, 8, 10, 109], [0, 8])), (11, some ([0, 1, 2, 6, 7, 8, 10, 118], [0, 8]))], loopK := [(5, ([0, 1, 2, 6, 7], [0]))], frz := [], sch := [(7, .first 0 [1, 2, 3, 9, 10, 11, 12, 13, 14] [4, 5, 6, 7, 8] (.first 1 [2, 3, 9, 10, 11, 12, 13, 14] [4, 5, 6, 7, 8] (.first 2 [3, 9, 10, 11, 12, 13, 14] [4, 5, 6, 7, 8] (.first 3 [9, 10, 11, 12, 13, 14] [4, 5, 6, 7, 8] (.first 4 [5, 6, 7, 9, 10, 11, 12, 13, 14] [8] (.first 5 [6, 7, 9, 10, 11, 12, 13, 14] [8] (.first 6 [7, 9, 10, 11, 12, 13, 14] [8] (.first 7 [9, 10, 11, 12, 13, 14] [8] (.first 8 [9, 10, 11, 12, 13, 14] [] (.fork 9 (.first 10 [11, 12, 13, 14] [] (.first 11 [13, 14] [12] (.fork 12 (.fork 13 (.fork 14 (.done) (.stop)) (.stop)) (.fork 13 (.first 12 [14] [] (.fork 14 (.done) (.stop))) (.stop))))) (.stop))))))))))), (11, .first 0 [1, 2, 3, 8] [4, 5, 6, 7] (.first 1 [2, 3, 8] [4, 5, 6, 7] (.first 2 [3, 8] [4, 5, 6, 7] (.first 3 [8] [4, 5, 6, 7] (.first 4 [5, 6, 7, 8] [] (.first 5 [6, 7, 8] [] (.first 6 [7, 8] [] (.first 7 [8] [] (.first 8 [] [] (.done))))))))))] }
def fc37 : FCfg := { par := [.cst false, .cst false, .cst false], inn := [], out := [(1, some ([6], []))], loopK := [], frz := [], sch := [] }
def fc38 : FCfg := { par := [.ptr [.imm, .imm, .imm, .imm, .imm, .imm, .imm, .imm, .imm, .imm, .sh, .imm], .mv, .cst false, .cst false], inn := [(3, some ([], [0])), (6, some ([0, 1, 2, 3, 9], [0, 1])), (12, some ([0, 1, 2, 3, 9, 10, 12], [0, 1, 10])), (16, some ([0, 1, 2, 3, 9, 10, 12], [0, 1, 10])), (17, some ([], [0])), (18, some ([], [0]))], out := [(7, some ([0, 1, 2, 3, 9, 10, 11], [0, 1, 10])), (10, some ([0, 1, 2, 3, 9, 10, 12, 71], [0, 1, 10])), (11, some ([0, 1, 2, 3, 9, 10, 12], [0, 1, 10])), (12, some ([0, 1, 2, 3, 9, 10, 12, 94], [0, 1, 10]))], loopK := [(5, ([0, 1, 2, 3, 9], [0, 1]))], frz := [], sch := [(7, .first 0 [1, 2, 3, 10, 11, 12, 13, 15, 16] [4, 5, 6, 7, 8, 9, 14] (.first 1 [2, 3, 10, 11, 12, 13, 15, 16] [4, 5, 6, 7, 8, 9, 14] (.first 2 [3, 10, 11, 12, 13, 15, 16] [4, 5, 6, 7, 8, 9, 14] (.first 3 [10, 11, 12, 13, 15, 16] [4, 5, 6, 7, 8, 9, 14] (.first 4 [5, 6, 7, 10, 11, 12, 13, 15, 16] [8, 9, 14] (.first 5 [6, 7, 10, 11, 12, 13, 15, 16] [8, 9, 14] (.first 6 [7, 10, 11, 12, 13, 15, 16] [8, 9, 14] (.first 7 [10, 11, 12, 13, 15, 16] [8, 9, 14] (.first 8 [10, 11, 12, 13, 15, 16] [9, 14] (.first 9 [10, 11, 12, 13, 15, 16] [14] (.fork 10 (.first 11 [12, 13, 15, 16] [14] (.first 12 [15, 16] [13, 14] (.fork 13 (.fork 14 (.fork 15 (.fork 16 (.done) (.stop)) (.stop)) (.stop)) (.fork 14 (.fork 13 (.fork 15 (.fork 16 (.done) (.stop)) (.stop)) (.fork 15 (.first 13 [16] [] (.fork 16 (.done) (.stop))) (.stop))) (.stop))))) (.fork 14 (.fork 10 (.first 11 [12, 13, 15, 16] [] (.first 12 [15, 16] [13] (.fork 13 (.fork 15 (.fork 16 (.done) (.stop)) (.stop)) (.fork 15 (.first 13 [16] [] (.fork 16 (.done) (.stop))) (.stop))))) (.stop)) (.stop))))))))))))), (11, .first 0 [10, 11] [1, 2, 3, 4, 5, 6, 7, 8, 9] (.first 1 [2, 3, 9, 10, 11] [4, 5, 6, 7, 8] (.first 2 [3, 9, 10, 11] [4, 5, 6, 7, 8] (.first 3 [9, 10, 11] [4, 5, 6, 7, 8] (.first 4 [9, 10, 11] [5, 6, 7, 8] (.first 5 [6, 7, 8, 9, 10, 11] [] (.first 6 [7, 8, 9, 10, 11] [] (.first 7 [8, 9, 10, 11] [] (.first 8 [9, 10, 11] [] (.fork 9 (.first 10 [11] [] (.fork 11 (.done) (.stop))) (.stop)))))))))))] }
def fc39 : FCfg := { par := [.cst false], inn := [], out := [(1, some ([2], []))], loopK := [], frz := [], sch := [] }
def fc40 : FCfg := { par := [.cst false], inn := [], out := [(1, some ([2], []))], loopK := [], frz := [], sch := [(1, .first 0 [1, 2, 3, 4, 5, 6, 7, 8, 9, 10, 11, 12, 13, 14, 15, 16, 17, 18, 19, 20, 21, 22, 23, 24, 25, 26, 27, 28, 29, 30, 31, 32, 33, 34, 35] [] (.first 1 [2, 3, 4, 5, 6, 7, 8, 9, 10, 11, 12, 13, 14, 15, 16, 17, 18, 19, 20, 21, 22, 23, 24, 25, 26, 27, 28, 29, 30, 31, 32, 33, 34, 35] [] (.first 2 [3, 4, 5, 6, 7, 8, 9, 10, 11, 12, 13, 14, 15, 16, 17, 18, 19, 20, 21, 22, 23, 24, 25, 26, 27, 28, 29, 30, 31, 32, 33, 34, 35] [] (.first 3 [4, 5, 6, 7, 8, 9, 10, 11, 12, 13, 14, 15, 16, 17, 18, 19, 20, 21, 22, 23, 24, 25, 26, 27, 28, 29, 30, 31, 32, 33, 34, 35] [] (.fork 4 (.first 5 [6, 7, 8, 9, 10, 11, 12, 13, 14, 15, 16, 17, 18, 19, 20, 21, 22, 23, 24, 25, 26, 27, 28, 29, 30, 31, 32, 33, 34, 35] [] (.first 6 [7, 8, 9, 10, 11, 12, 13, 14, 15, 16, 17, 18, 19, 20, 21, 22, 23, 24, 25, 26, 27, 28, 29, 30, 31, 32, 33, 34, 35] [] (.first 7 [8, 9, 10, 11, 12, 13, 14, 15, 16, 17, 18, 19, 20, 21, 22, 23, 24, 25, 26, 27, 28, 29, 30, 31, 32, 33, 34, 35] [] (.first 8 [9, 10, 11, 12, 13, 14, 15, 16, 17, 18, 19, 20, 21, 22, 23, 24, 25, 26, 27, 28, 29, 30, 31, 32, 33, 34, 35] [] (.first 9 [10, 11, 12, 13, 14, 15, 16, 17, 18, 19, 20, 21, 22, 23, 24, 25, 26, 27, 28, 29, 30, 31, 32, 33, 34, 35] [] (.fork 10 (.first 11 [12, 13, 14, 15, 16, 17, 18, 19, 20, 21, 22, 23, 24, 25, 26, 27, 28, 29, 30, 31, 32, 33, 34, 35] [] (.first 12 [13, 14, 15, 16, 17, 18, 19, 20, 21, 22, 23, 24, 25, 26, 27, 28, 29, 30, 31, 32, 33, 34, 35] [] (.first 13 [14, 15, 16, 21, 22, 23, 24, 25, 26, 27, 28, 29, 30, 31, 32, 33, 34, 35] [17, 18, 19, 20] (.first 14 [15, 16, 21, 22, 23, 24, 25, 26, 27, 28, 29, 30, 31, 32, 33, 34, 35] [17, 18, 19, 20] (.first 15 [16, 21, 22, 23, 24, 25, 26, 27, 28, 29, 30, 31, 32, 33, 34, 35] [17, 18, 19, 20] (.first 16 [21, 22, 23, 24, 25, 26, 27, 28, 29, 30, 31, 32, 33, 34, 35] [17, 18, 19, 20] (.first 17 [18, 19, 20, 21, 22, 23, 24, 25, 26, 27, 28, 29, 30, 31, 32, 33, 34, 35] [] (.first 18 [19, 20, 21, 22, 23, 24, 25, 26, 27, 28, 29, 30, 31, 32, 33, 34, 35] [] (.first 19 [20, 21, 22, 23, 24, 25, 26, 27, 28, 29, 30, 31, 32, 33, 34, 35] [] (.first 20 [21, 22, 23, 24, 25, 26, 27, 28, 29, 30, 31, 32, 33, 34, 35] [] (.fork 21 (.first 22 [23, 24, 25, 26, 27, 28, 29, 30, 31, 32, 33, 34, 35] [] (.first 23 [24, 25, 26, 27, 28, 29, 30, 31, 32, 33, 34, 35] [] (.first 24 [25, 26, 27, 33, 34, 35] [28, 29, 30, 31, 32] (.first 25 [26, 27, 33, 34, 35] [28, 29, 30, 31, 32] (.first 26 [27, 33, 34, 35] [28, 29, 30, 31, 32] (.first 27 [33, 34, 35] [28, 29, 30, 31, 32] (.first 28 [29, 30, 31, 32, 33, 34, 35] [] (.first 29 [30, 31, 32, 33, 34, 35] [] (.first 30 [31, 32, 33, 34, 35] [] (.first 31 [32, 33, 34, 35] [] (.first 32 [33, 34, 35] [] (.fork 33 (.first 34 [35] [] (.fork 35 (.done) (.stop))) (.stop))))))))))))) (.stop)))))))))))) (.stop))))))) (.stop))))))] }
def fc41 : FCfg := { par := [.cst false, .cst false, .cst false], inn := [(4, some ([7], []))], out := [(2, some ([7, 16], []))], loopK := [], frz := [], sch := [(2, .first 0 [1, 2, 6] [3, 4, 5] (.first 1 [2, 6] [3, 4, 5] (.first 2 [6] [3, 4, 5] (.first 3 [5, 6] [4] (.first 4 [5, 6] [] (.fork 5 (.first 6 [] [] (.done)) (.stop)))))))] }
def fc42 : FCfg := { par := [.cst false], inn := [], out := [(1, some ([2], []))], loopK := [], frz := [], sch := [] }
def fc43 : FCfg := { par := [.cst false], inn := [], out := [(1, some ([2], []))], loopK := [], frz := [], sch := [] }
def fc44 : FCfg := { par := [.cst false, .cst false], inn := [], out := [], loopK := [], frz := [], sch := [] }
def fc45 : FCfg := { par := [.cst false, .cst false, .cst false], inn := [(6, some ([2, 3, 4, 6, 8], [3, 4, 6, 8])), (9, some ([3, 4, 6, 8, 9], [3, 4, 6, 8])), (10, some ([3, 4, 6, 8, 9], [3, 4, 6, 8])), (11, some ([3, 4, 6, 8, 9], [3, 4, 6, 8])), (12, some ([4, 6, 8], [4, 6, 8]))], out := [], loopK := [(7, ([3, 4, 6, 8, 9], [3, 4, 6, 8]))], frz := [], sch := [] }
def fc46 : FCfg := { par := [.cst false, .cst false, .cst false], inn := [(8, some ([], []))], out := [(2, some ([3, 4, 5, 7, 8, 20], [3, 4, 5])), (3, some ([3, 4, 5, 7, 8, 35], [3, 4, 5])), (5, some ([3, 4, 5, 7, 8, 46], [3, 4, 5]))], loopK := [(2, ([3, 4, 5, 7, 8], [3, 4, 5]))], frz := [], sch := [(3, .first 0 [1, 3, 4, 10, 11, 14] [2, 5, 6, 7, 8, 9, 12, 13] (.first 1 [3, 4, 10, 11, 14] [2, 5, 6, 7, 8, 9, 12, 13] (.first 2 [3, 4, 10, 11, 14] [5, 6, 7, 8, 9, 12, 13] (.first 3 [4, 10, 11, 14] [5, 6, 7, 8, 9, 12, 13] (.first 4 [10, 11, 14] [5, 6, 7, 8, 9, 12, 13] (.first 5 [6, 8, 9, 10, 11, 14] [7, 12, 13] (.first 6 [8, 9, 10, 11, 14] [7, 12, 13] (.first 7 [8, 9, 10, 11, 14] [12, 13] (.first 8 [9, 10, 11, 14] [12, 13] (.first 9 [10, 11, 14] [12, 13] (.first 10 [11, 14] [12, 13] (.first 12 [13, 14] [11] (.first 13 [14] [11] (.fork 11 (.first 14 [] [] (.done)) (.stop))))))))))))))), (5, .first 0 [1, 3, 4, 10] [2, 5, 6, 7, 8, 9] (.first 1 [3, 4, 10] [2, 5, 6, 7, 8, 9] (.first 2 [3, 4, 10] [5, 6, 7, 8, 9] (.first 3 [4, 10] [5, 6, 7, 8, 9] (.first 4 [10] [5, 6, 7, 8, 9] (.first 5 [6, 8, 9, 10] [7] (.first 6 [8, 9, 10] [7] (.first 7 [8, 9, 10] [] (.first 8 [9, 10] [] (.first 9 [10] [] (.first 10 [] [] (.done))))))))))))] }
def fc47 : FCfg := { par := [.cst false, .cst false], inn := [], out := [], loopK := [], frz := [], sch := [] }
def fc48 : FCfg := { par := [.cst false], inn := [(8, some ([3], [3]))], out := [], loopK := [(4, ([0, 3, 4, 5], [3]))], frz := [], sch := [] }
def fc49 : FCfg := { par := [.cst false, .cst false], inn := [], out := [], loopK := [], frz := [], sch := [] }
def fc50 : FCfg := { par := [.cst false], inn := [], out := [], loopK := [], frz := [], sch := [] }
def fc52 : FCfg := { par := [.cst false, .cst false], inn := [], out := [], loopK := [], frz := [], sch := [] }
def fc53 : FCfg := { par := [.cst false], inn := [], out := [], loopK := [], frz := [], sch := [] }
def fcs : List (Nat × FCfg) := [(6, fc6), (8, fc8), (9, fc9), (12, fc12), (15, fc15), (16, fc16), (19, fc19), (20, fc20), (21, fc21), (24, fc24), (26, fc26), (27, fc27), (28, fc28), (29, fc29), (30, fc30), (31, fc31), (32, fc32), (33, fc33), (35, fc35), (36, fc36), (37, fc37), (38, fc38), (39, fc39), (40, fc40), (41, fc41), (42, fc42), (43, fc43), (44, fc44), (45, fc45), (46, fc46), (47, fc47), (48, fc48), (49, fc49), (50, fc50), (52, fc52), (53, fc53)]
def ons : List (Nat × Bool) := [(6, true), (8, true), (9, true), (12, true), (15, true), (16, true), (19, true), (20, true), (21, true), (24, true), (26, true), (27, true), (28, true), (29, true), (30, true), (31, true), (32, true), (33, true), (35, true), (36, true), (37, true), (38, true), (39, true), (40, true), (41, true), (42, true), (43, true), (44, true), (45, true), (46, true), (47, true), (48, true), (49, true), (50, true), (52, true), (53, true)]
def cfg : Cfg := mkCfg ons fcs [(51, some (extCloneN 1 8))]
theorem c6 : cfg.fc 6 = fc6 := rfl
theorem z6 : (cfg.fc 6).frz = [] := rfl
theorem c8 : cfg.fc 8 = fc8 := rfl
theorem z8 : (cfg.fc 8).frz = [] := rfl
theorem c9 : cfg.fc 9 = fc9 := rfl
theorem z9 : (cfg.fc 9).frz = [] := rfl
theorem c12 : cfg.fc 12 = fc12 := rfl
theorem z12 : (cfg.fc 12).frz = [] := rfl
theorem c15 : cfg.fc 15 = fc15 := rfl
theorem z15 : (cfg.fc 15).frz = [] := rfl
theorem c16 : cfg.fc 16 = fc16 := rfl
theorem z16 : (cfg.fc 16).frz = [] := rfl
theorem c19 : cfg.fc 19 = fc19 := rfl
theorem z19 : (cfg.fc 19).frz = [] := rfl
theorem c20 : cfg.fc 20 = fc20 := rfl
theorem z20 : (cfg.fc 20).frz = [] := rfl
theorem c21 : cfg.fc 21 = fc21 := rfl
theorem z21 : (cfg.fc 21).frz = [] := rfl
theorem c24 : cfg.fc 24 = fc24 := rfl
theorem z24 : (cfg.fc 24).frz = [] := rfl
theorem c26 : cfg.fc 26 = fc26 := rfl
theorem z26 : (cfg.fc 26).frz = [] := rfl
theorem c27 : cfg.fc 27 = fc27 := rfl
theorem z27 : (cfg.fc 27).frz = [] := rfl
theorem c28 : cfg.fc 28 = fc28 := rfl
theorem z28 : (cfg.fc 28).frz = [] := rfl
theorem c29 : cfg.fc 29 = fc29 := rfl
theorem z29 : (cfg.fc 29).frz = [] := rfl
theorem c30 : cfg.fc 30 = fc30 := rfl
theorem z30 : (cfg.fc 30).frz = [] := rfl
theorem c31 : cfg.fc 31 = fc31 := rfl
theorem z31 : (cfg.fc 31).frz = [] := rfl
theorem c32 : cfg.fc 32 = fc32 := rfl
theorem z32 : (cfg.fc 32).frz = [] := rfl
theorem c33 : cfg.fc 33 = fc33 := rfl
theorem z33 : (cfg.fc 33).frz = [] := rfl
theorem c35 : cfg.fc 35 = fc35 := rfl
theorem z35 : (cfg.fc 35).frz = [] := rfl
theorem c36 : cfg.fc 36 = fc36 := rfl
theorem z36 : (cfg.fc 36).frz = [] := rfl
theorem c37 : cfg.fc 37 = fc37 := rfl
theorem z37 : (cfg.fc 37).frz = [] := rfl
theorem c38 : cfg.fc 38 = fc38 := rfl
theorem z38 : (cfg.fc 38).frz = [] := rfl
theorem c39 : cfg.fc 39 = fc39 := rfl
theorem z39 : (cfg.fc 39).frz = [] := rfl
theorem c40 : cfg.fc 40 = fc40 := rfl
theorem z40 : (cfg.fc 40).frz = [] := rfl
theorem c41 : cfg.fc 41 = fc41 := rfl
theorem z41 : (cfg.fc 41).frz = [] := rfl
theorem c42 : cfg.fc 42 = fc42 := rfl
theorem z42 : (cfg.fc 42).frz = [] := rfl
theorem c43 : cfg.fc 43 = fc43 := rfl
theorem z43 : (cfg.fc 43).frz = [] := rfl
theorem c44 : cfg.fc 44 = fc44 := rfl
theorem z44 : (cfg.fc 44).frz = [] := rfl
theorem c45 : cfg.fc 45 = fc45 := rfl
theorem z45 : (cfg.fc 45).frz = [] := rfl
theorem c46 : cfg.fc 46 = fc46 := rfl
theorem z46 : (cfg.fc 46).frz = [] := rfl
theorem c47 : cfg.fc 47 = fc47 := rfl
theorem z47 : (cfg.fc 47).frz = [] := rfl
theorem c48 : cfg.fc 48 = fc48 := rfl
theorem z48 : (cfg.fc 48).frz = [] := rfl
theorem c49 : cfg.fc 49 = fc49 := rfl
theorem z49 : (cfg.fc 49).frz = [] := rfl
theorem c50 : cfg.fc 50 = fc50 := rfl
theorem z50 : (cfg.fc 50).frz = [] := rfl
theorem c52 : cfg.fc 52 = fc52 := rfl
theorem z52 : (cfg.fc 52).frz = [] := rfl
theorem c53 : cfg.fc 53 = fc53 := rfl
theorem z53 : (cfg.fc 53).frz = [] := rfl
theorem bF53 : buildF Try.prog 53 = some ([.nil, .nil, .im 0 (.sc (.int .i64 0))], [(0, 1), (1, 1), (2, 1)]) := by kernel_rfl
theorem bF68 : buildF Try.prog 68 = some ([.im 0 (.sc (.pointer none)), .im 0 (.sc (.pointer none)), .im 0 (.sc (.int .i64 0)), .im 0 (.sc (.int .i64 0)), .nil, .nil, .im 0 (.sc (.int .i64 0)), .im 0 (.sc (.int .i64 0)), .im 0 (.sc (.int .i64 0)), .im 0 (.sc (.bool false))], [(0, 1), (1, 1), (2, 1), (3, 1), (4, 1), (5, 1), (6, 1), (7, 1), (8, 1), (9, 1)]) := by kernel_rfl
theorem bF72 : buildF Try.prog 72 = some ([.im 0 (.sc (.int .i64 0)), .im 0 (.sc (.int .i64 0)), .im 0 (.sc (.int .i64 0)), .im 0 (.sc (.int .i64 0)), .im 0 (.sc (.int .i64 0)), .im 0 (.sc (.int .i64 0)), .im 0 (.sc (.int .i64 0)), .im 0 (.sc (.int .i64 0)), .im 0 (.sc (.int .i64 0)), .im 0 (.sc (.bool false)), .nil, .im 0 (.sc (.int .i64 0))], [(0, 2), (2, 4), (6, 1), (7, 1), (8, 1), (9, 1), (10, 1), (11, 1)]) := by kernel_rfl
theorem eF26 : elemSz Try.prog 26 = some (2, 1) := by kernel_rfl
theorem fF23_0 : fieldF Try.prog 23 0 = some 0 := by kernel_rfl
theorem fF23_1 : fieldF Try.prog 23 1 = some 1 := by kernel_rfl
theorem fF25_0 : fieldF Try.prog 25 0 = some 0 := by kernel_rfl
theorem fF25_1 : fieldF Try.prog 25 1 = some 1 := by kernel_rfl
theorem fF25_2 : fieldF Try.prog 25 2 = some 2 := by kernel_rfl
theorem fF25_3 : fieldF Try.prog 25 3 = some 3 := by kernel_rfl
theorem fF29_0 : fieldF Try.prog 29 0 = some 0 := by kernel_rfl
theorem fF29_1 : fieldF Try.prog 29 1 = some 1 := by kernel_rfl
theorem fF31_0 : fieldF Try.prog 31 0 = some 0 := by kernel_rfl
theorem fF31_1 : fieldF Try.prog 31 1 = some 1 := by kernel_rfl
theorem fF31_2 : fieldF Try.prog 31 2 = some 2 := by kernel_rfl
theorem fF31_3 : fieldF Try.prog 31 3 = some 3 := by kernel_rfl
theorem fF53_0 : fieldF Try.prog 53 0 = some 0 := by kernel_rfl
theorem fF53_1 : fieldF Try.prog 53 1 = some 1 := by kernel_rfl
theorem fF53_2 : fieldF Try.prog 53 2 = some 2 := by kernel_rfl
theorem fF68_0 : fieldF Try.prog 68 0 = some 0 := by kernel_rfl
theorem fF68_1 : fieldF Try.prog 68 1 = some 1 := by kernel_rfl
theorem fF68_2 : fieldF Try.prog 68 2 = some 2 := by kernel_rfl
theorem fF68_3 : fieldF Try.prog 68 3 = some 3 := by kernel_rfl
theorem fF68_4 : fieldF Try.prog 68 4 = some 4 := by kernel_rfl
theorem fF68_5 : fieldF Try.prog 68 5 = some 5 := by kernel_rfl
theorem fF68_6 : fieldF Try.prog 68 6 = some 6 := by kernel_rfl
theorem fF68_7 : fieldF Try.prog 68 7 = some 7 := by kernel_rfl
theorem fF68_8 : fieldF Try.prog 68 8 = some 8 := by kernel_rfl
theorem fF68_9 : fieldF Try.prog 68 9 = some 9 := by kernel_rfl
theorem fF72_0 : fieldF Try.prog 72 0 = some 0 := by kernel_rfl
theorem fF72_1 : fieldF Try.prog 72 1 = some 2 := by kernel_rfl
theorem fF72_2 : fieldF Try.prog 72 2 = some 6 := by kernel_rfl
theorem fF72_3 : fieldF Try.prog 72 3 = some 7 := by kernel_rfl
theorem fF72_4 : fieldF Try.prog 72 4 = some 8 := by kernel_rfl
theorem fF72_5 : fieldF Try.prog 72 5 = some 9 := by kernel_rfl
theorem fF72_6 : fieldF Try.prog 72 6 = some 10 := by kernel_rfl
theorem fF72_7 : fieldF Try.prog 72 7 = some 11 := by kernel_rfl
theorem kF12_26_26 : callK Try.prog cfg 12 0 [26, 26] = [(.cst false, [some 1]), (.cst false, [some 1])] := by kernel_rfl
theorem kF15_26_3 : callK Try.prog cfg 15 0 [26, 3] = [(.row, [some 1]), (.cst false, [none])] := by kernel_rfl
theorem kF16_26_3 : callK Try.prog cfg 16 0 [26, 3] = [(.cst false, [some 1]), (.cst false, [none])] := by kernel_rfl
theorem kF19_29_31_2_2 : callK Try.prog cfg 19 0 [29, 31, 2, 2] = [(.cst false, [none, none]), (.cst false, [none, none, none, none]), (.cst false, [none]), (.cst false, [none])] := by kernel_rfl
theorem kF20_29_31_2_2 : callK Try.prog cfg 20 0 [29, 31, 2, 2] = [(.cst false, [none, none]), (.cst false, [none, none, none, none]), (.cst false, [none]), (.cst false, [none])] := by kernel_rfl
theorem kF21_44_45 : callK Try.prog cfg 21 0 [44, 45] = [(.cst false, [none]), (.cst false, [none])] := by kernel_rfl
theorem kF24_29_31 : callK Try.prog cfg 24 0 [29, 31] = [(.cst false, [none, none]), (.cst false, [none, none, none, none])] := by kernel_rfl
theorem kF26_53_53_31 : callK Try.prog cfg 26 0 [53, 53, 31] = [(.cst false, [some 1, some 1, none]), (.cst false, [some 1, some 1, none]), (.cst false, [none, none, none, none])] := by kernel_rfl
theorem kF27_44_45 : callK Try.prog cfg 27 0 [44, 45] = [(.cst false, [none]), (.cst false, [none])] := by kernel_rfl
theorem kF28_45_26 : callK Try.prog cfg 28 0 [45, 26] = [(.cst false, [none]), (.cst false, [some 1])] := by kernel_rfl
theorem kF29_44_45_2 : callK Try.prog cfg 29 0 [44, 45, 2] = [(.cst false, [none]), (.cst false, [none]), (.cst false, [none])] := by kernel_rfl
theorem kF30_45_26_26 : callK Try.prog cfg 30 0 [45, 26, 26] = [(.cst false, [none]), (.cst false, [some 1]), (.cst false, [some 1])] := by kernel_rfl
theorem kF31_29_31 : callK Try.prog cfg 31 0 [29, 31] = [(.cst false, [none, none]), (.cst false, [none, none, none, none])] := by kernel_rfl
theorem kF32_53_31 : callK Try.prog cfg 32 0 [53, 31] = [(.cst false, [some 1, some 1, none]), (.cst false, [none, none, none, none])] := by kernel_rfl
theorem kF33_29_31_60_2 : callK Try.prog cfg 33 0 [29, 31, 60, 2] = [(.cst false, [none, none]), (.cst false, [none, none, none, none]), (.cst false, [none]), (.cst false, [none])] := by kernel_rfl
theorem kF35_2_2_2 : callK Try.prog cfg 35 0 [2, 2, 2] = [(.cst false, [none]), (.cst false, [none]), (.cst false, [none])] := by kernel_rfl
theorem kF36_66_26_2 : callK Try.prog cfg 36 0 [66, 26, 2] = [(.ptr [.imm, .imm, .imm, .imm, .sh, .sh, .imm, .imm, .imm, .imm], [none]), (.cst false, [some 1]), (.cst false, [none])] := by kernel_rfl
theorem kF37_2_2_2 : callK Try.prog cfg 37 0 [2, 2, 2] = [(.cst false, [none]), (.cst false, [none]), (.cst false, [none])] := by kernel_rfl
theorem kF38_70_26_60_2 : callK Try.prog cfg 38 0 [70, 26, 60, 2] = [(.ptr [.imm, .imm, .imm, .imm, .imm, .imm, .imm, .imm, .imm, .imm, .sh, .imm], [none]), (.mv, [some 1]), (.cst false, [none]), (.cst false, [none])] := by kernel_rfl
theorem kF39_44 : callK Try.prog cfg 39 0 [44] = [(.cst false, [none])] := by kernel_rfl
theorem kF40_45 : callK Try.prog cfg 40 0 [45] = [(.cst false, [none])] := by kernel_rfl
theorem kF41_45_26_26 : callK Try.prog cfg 41 0 [45, 26, 26] = [(.cst false, [none]), (.cst false, [some 1]), (.cst false, [some 1])] := by kernel_rfl
theorem kF42_29 : callK Try.prog cfg 42 0 [29] = [(.cst false, [none, none])] := by kernel_rfl
theorem kF43_31 : callK Try.prog cfg 43 0 [31] = [(.cst false, [none, none, none, none])] := by kernel_rfl
theorem kF44_29_31 : callK Try.prog cfg 44 0 [29, 31] = [(.cst false, [none, none]), (.cst false, [none, none, none, none])] := by kernel_rfl
theorem kF45_29_31_2 : callK Try.prog cfg 45 0 [29, 31, 2] = [(.cst false, [none, none]), (.cst false, [none, none, none, none]), (.cst false, [none])] := by kernel_rfl
theorem kF46_53_53_31 : callK Try.prog cfg 46 0 [53, 53, 31] = [(.cst false, [some 1, some 1, none]), (.cst false, [some 1, some 1, none]), (.cst false, [none, none, none, none])] := by kernel_rfl
theorem kF47_2_2 : callK Try.prog cfg 47 0 [2, 2] = [(.cst false, [none]), (.cst false, [none])] := by kernel_rfl
theorem kF48_26 : callK Try.prog cfg 48 0 [26] = [(.cst false, [some 1])] := by kernel_rfl
theorem kF49_2_2 : callK Try.prog cfg 49 0 [2, 2] = [(.cst false, [none]), (.cst false, [none])] := by kernel_rfl
theorem kF50_26 : callK Try.prog cfg 50 0 [26] = [(.cst false, [some 1])] := by kernel_rfl
theorem kF51_26 : callK Try.prog cfg 51 0 [26] = [(.cst false, [some 1])] := by kernel_rfl
theorem kF52_2_2 : callK Try.prog cfg 52 0 [2, 2] = [(.cst false, [none]), (.cst false, [none])] := by kernel_rfl
theorem kF53_2 : callK Try.prog cfg 53 0 [2] = [(.cst false, [none])] := by kernel_rfl
theorem kF8_23 : callK Try.prog cfg 8 0 [23] = [(.cst false, [none, none])] := by kernel_rfl
theorem kF9_25 : callK Try.prog cfg 9 0 [25] = [(.cst false, [none, none, none, none])] := by kernel_rfl
theorem rF12 : resK Try.prog (Try.f12.results.toList.zip Try.f12.resultTypes.toList) = [(.tmp 4, [none], none)] := by kernel_rfl
theorem rF15 : resK Try.prog (Try.f15.results.toList.zip Try.f15.resultTypes.toList) = [(.tmp 4, [none], none)] := by kernel_rfl
theorem rF16 : resK Try.prog (Try.f16.results.toList.zip Try.f16.resultTypes.toList) = [(.tmp 4, [none], none)] := by kernel_rfl
theorem rF19 : resK Try.prog (Try.f19.results.toList.zip Try.f19.resultTypes.toList) = [(.tmp 8, [some 1], none), (.tmp 9, [none], none), (.tmp 10, [none], none)] := by kernel_rfl
theorem rF20 : resK Try.prog (Try.f20.results.toList.zip Try.f20.resultTypes.toList) = [(.tmp 8, [some 1], none), (.tmp 9, [none], none), (.tmp 10, [none], none)] := by kernel_rfl
theorem rF21 : resK Try.prog (Try.f21.results.toList.zip Try.f21.resultTypes.toList) = [(.tmp 4, [none], none)] := by kernel_rfl
theorem rF24 : resK Try.prog (Try.f24.results.toList.zip Try.f24.resultTypes.toList) = [(.tmp 4, [none], none)] := by kernel_rfl
theorem rF26 : resK Try.prog (Try.f26.results.toList.zip Try.f26.resultTypes.toList) = [(.tmp 6, [none], none)] := by kernel_rfl
theorem rF27 : resK Try.prog (Try.f27.results.toList.zip Try.f27.resultTypes.toList) = [(.tmp 4, [none], none)] := by kernel_rfl
theorem rF28 : resK Try.prog (Try.f28.results.toList.zip Try.f28.resultTypes.toList) = [(.tmp 4, [none], none)] := by kernel_rfl
theorem rF29 : resK Try.prog (Try.f29.results.toList.zip Try.f29.resultTypes.toList) = [(.tmp 6, [some 1], none), (.tmp 7, [none], none)] := by kernel_rfl
theorem rF30 : resK Try.prog (Try.f30.results.toList.zip Try.f30.resultTypes.toList) = [(.tmp 6, [none], none)] := by kernel_rfl
theorem rF31 : resK Try.prog (Try.f31.results.toList.zip Try.f31.resultTypes.toList) = [(.tmp 4, [none], none), (.tmp 5, [none], none)] := by kernel_rfl
theorem rF32 : resK Try.prog (Try.f32.results.toList.zip Try.f32.resultTypes.toList) = [(.tmp 4, [none], none)] := by kernel_rfl
theorem rF33 : resK Try.prog (Try.f33.results.toList.zip Try.f33.resultTypes.toList) = [(.cell 8 53, [some 1, some 1, none], some (true, 3)), (.tmp 9, [none], none)] := by kernel_rfl
theorem rF35 : resK Try.prog (Try.f35.results.toList.zip Try.f35.resultTypes.toList) = [(.tmp 6, [none], none)] := by kernel_rfl
theorem rF36 : resK Try.prog (Try.f36.results.toList.zip Try.f36.resultTypes.toList) = [] := by kernel_rfl
theorem rF37 : resK Try.prog (Try.f37.results.toList.zip Try.f37.resultTypes.toList) = [(.tmp 6, [none], none)] := by kernel_rfl
theorem rF38 : resK Try.prog (Try.f38.results.toList.zip Try.f38.resultTypes.toList) = [(.tmp 8, [none], none)] := by kernel_rfl
theorem rF39 : resK Try.prog (Try.f39.results.toList.zip Try.f39.resultTypes.toList) = [(.tmp 2, [none], none)] := by kernel_rfl
theorem rF40 : resK Try.prog (Try.f40.results.toList.zip Try.f40.resultTypes.toList) = [(.tmp 2, [none], none)] := by kernel_rfl
theorem rF41 : resK Try.prog (Try.f41.results.toList.zip Try.f41.resultTypes.toList) = [(.tmp 6, [none], none)] := by kernel_rfl
theorem rF42 : resK Try.prog (Try.f42.results.toList.zip Try.f42.resultTypes.toList) = [(.tmp 2, [none], none)] := by kernel_rfl
theorem rF43 : resK Try.prog (Try.f43.results.toList.zip Try.f43.resultTypes.toList) = [(.tmp 2, [none], none)] := by kernel_rfl
theorem rF44 : resK Try.prog (Try.f44.results.toList.zip Try.f44.resultTypes.toList) = [(.tmp 4, [none], none)] := by kernel_rfl
theorem rF45 : resK Try.prog (Try.f45.results.toList.zip Try.f45.resultTypes.toList) = [(.cell 6 53, [some 1, some 1, none], some (true, 3)), (.tmp 7, [none], none)] := by kernel_rfl
theorem rF46 : resK Try.prog (Try.f46.results.toList.zip Try.f46.resultTypes.toList) = [(.tmp 6, [none], none)] := by kernel_rfl
theorem rF47 : resK Try.prog (Try.f47.results.toList.zip Try.f47.resultTypes.toList) = [(.tmp 4, [none], none)] := by kernel_rfl
theorem rF48 : resK Try.prog (Try.f48.results.toList.zip Try.f48.resultTypes.toList) = [(.tmp 2, [some 1], none)] := by kernel_rfl
theorem rF49 : resK Try.prog (Try.f49.results.toList.zip Try.f49.resultTypes.toList) = [(.tmp 4, [none], none)] := by kernel_rfl
theorem rF50 : resK Try.prog (Try.f50.results.toList.zip Try.f50.resultTypes.toList) = [(.tmp 2, [some 1], none)] := by kernel_rfl
theorem rF51 : resK Try.prog (Try.f51.results.toList.zip Try.f51.resultTypes.toList) = [(.tmp 2, [some 1], none)] := by kernel_rfl
theorem rF52 : resK Try.prog (Try.f52.results.toList.zip Try.f52.resultTypes.toList) = [(.tmp 4, [none], none)] := by kernel_rfl
theorem rF53 : resK Try.prog (Try.f53.results.toList.zip Try.f53.resultTypes.toList) = [(.tmp 2, [none], none)] := by kernel_rfl
theorem rF6 : resK Try.prog (Try.f6.results.toList.zip Try.f6.resultTypes.toList) = [(.tmp 8, [none], none)] := by kernel_rfl
theorem rF8 : resK Try.prog (Try.f8.results.toList.zip Try.f8.resultTypes.toList) = [(.cell 2 29, [none, none], some (true, 2))] := by kernel_rfl
theorem rF9 : resK Try.prog (Try.f9.results.toList.zip Try.f9.resultTypes.toList) = [(.cell 2 31, [none, none, none, none], some (true, 4))] := by kernel_rfl
theorem sF26 : sliceF Try.prog 26 = some (2, 1, [none], false, 8, [.im 0 (.sc (.int .i64 0))]) := by kernel_rfl
theorem tF2 : tyF Try.prog 2 = some ([.im 0 (.sc (.int .i64 0))], [none], false, 1) := by kernel_rfl
theorem tF23 : tyF Try.prog 23 = some ([.im 0 (.sc (.int .i64 0)), .im 0 (.sc (.int .i64 0))], [none, none], true, 2) := by kernel_rfl
theorem tF25 : tyF Try.prog 25 = some ([.im 0 (.sc (.int .i64 0)), .im 0 (.sc (.int .i64 0)), .im 0 (.sc (.int .i64 0)), .im 0 (.sc (.int .i64 0))], [none, none, none, none], true, 4) := by kernel_rfl
theorem tF26 : tyF Try.prog 26 = some ([.nil], [some 1], false, 1) := by kernel_rfl
theorem tF29 : tyF Try.prog 29 = some ([.im 0 (.sc (.int .i64 0)), .im 0 (.sc (.int .i64 0))], [none, none], true, 2) := by kernel_rfl
theorem tF3 : tyF Try.prog 3 = some ([.im 0 (.sc (.int .i64 0))], [none], false, 1) := by kernel_rfl
theorem tF31 : tyF Try.prog 31 = some ([.im 0 (.sc (.int .i64 0)), .im 0 (.sc (.int .i64 0)), .im 0 (.sc (.int .i64 0)), .im 0 (.sc (.int .i64 0))], [none, none, none, none], true, 4) := by kernel_rfl
theorem tF4 : tyF Try.prog 4 = some ([.im 0 (.sc (.bool false))], [none], false, 1) := by kernel_rfl
theorem tF44 : tyF Try.prog 44 = some ([.im 0 (.sc (.pointer none))], [none], false, 1) := by kernel_rfl
theorem tF45 : tyF Try.prog 45 = some ([.im 0 (.sc (.pointer none))], [none], false, 1) := by kernel_rfl
theorem tF53 : tyF Try.prog 53 = some ([.nil, .nil, .im 0 (.sc (.int .i64 0))], [some 1, some 1, none], true, 3) := by kernel_rfl
theorem tF68 : tyF Try.prog 68 = some ([.im 0 (.sc (.pointer none)), .im 0 (.sc (.pointer none)), .im 0 (.sc (.int .i64 0)), .im 0 (.sc (.int .i64 0)), .nil, .nil, .im 0 (.sc (.int .i64 0)), .im 0 (.sc (.int .i64 0)), .im 0 (.sc (.int .i64 0)), .im 0 (.sc (.bool false))], [none, none, none, none, some 1, some 1, none, none, none, none], true, 10) := by kernel_rfl
theorem tF72 : tyF Try.prog 72 = some ([.im 0 (.sc (.int .i64 0)), .im 0 (.sc (.int .i64 0)), .im 0 (.sc (.int .i64 0)), .im 0 (.sc (.int .i64 0)), .im 0 (.sc (.int .i64 0)), .im 0 (.sc (.int .i64 0)), .im 0 (.sc (.int .i64 0)), .im 0 (.sc (.int .i64 0)), .im 0 (.sc (.int .i64 0)), .im 0 (.sc (.bool false)), .nil, .im 0 (.sc (.int .i64 0))], [none, none, none, none, none, none, none, none, none, none, some 1, none], true, 12) := by kernel_rfl
theorem uF26 : Try.prog.underlying 26 = some (.slice 2) := by kernel_rfl
theorem uF60 : Try.prog.underlying 60 = some (.pointer 53) := by kernel_rfl

theorem L_laws_toRoom {a_0 : S_Room} {r : S_Room} (h : laws_toRoom a_0 = some r) : FL Try.prog cfg 8 [.im 2 true [.sc (.int .i64 a_0.Width), .sc (.int .i64 a_0.Length)]] = some ([(true, [.im 0 (.sc (.int .i64 r.Width)), .im 0 (.sc (.int .i64 r.Length))])], []) := by
  unfold laws_toRoom at h
  refine FL_goS (A := [(0, .v true [.im 2 (.sc (.int .i64 a_0.Width)), .im 2 (.sc (.int .i64 a_0.Length))])]) (B := [(0, none)]) (nt := 11) rfl rfl Try.func8 rfl rfl rfl rfl ?_
  refine Go.seq ?_
  refine Go.r0 c8 rfl rfl (sq z8 (oBx rfl tF23 rfl (tkI (tkI tk0))) <| sq z8 (oAl rfl tF29 (tkI (tkI tk0))) <| nl) ?_
  refine Unw.seq ?_
  refine Go.seq ?_
  refine Go.r0 c8 rfl rfl (sq z8 (oAl rfl tF29 (tkI (tkI tk0))) <| nl) ?_
  refine Unw.seq ?_
  refine Go.seq ?_
  refine Go.r0 c8 rfl rfl (sq z8 (oFA (r' := .mp 1 0 0) rfl fF23_0 rfl rfl) <| sq z8 (oLd (cs := [.im 0 _]) rfl tF2 rfl rfl) <| sq z8 (oFA (r' := .mp 3 0 0) rfl fF29_0 rfl rfl) <| sq z8 (oSt tF2 rfl rfl rfl (tkI tk0) rfl rfl rfl) <| nl) ?_
  refine Unw.seq ?_
  refine Go.seq ?_
  refine Go.r1 c8 rfl rfl (st1 := mk [(1, .v false [.mp 1 0 0]), (2, .v false [.mp 2 0 0]), (3, .v false [.mp 3 0 0])] [(1, some ⟨0, 0, false, true, false, true, [⟨.imm, 0, 0, .sc (.int .i64 a_0.Width)⟩, ⟨.imm, 0, 0, .sc (.int .i64 a_0.Length)⟩]⟩), (2, some ⟨0, 0, false, true, false, true, [⟨.imm, 0, 0, .sc (.int .i64 0)⟩, ⟨.imm, 0, 0, .sc (.int .i64 0)⟩]⟩), (3, some ⟨0, 0, false, true, false, true, [⟨.imm, 0, 0, .sc (.int .i64 a_0.Width)⟩, ⟨.imm, 0, 0, .sc (.int .i64 0)⟩]⟩)]) (by kernel_rfl) (sq z8 (oFA (r' := .mp 1 0 1) rfl fF23_1 rfl rfl) <| sq z8 (oLd (cs := [.im 0 _]) rfl tF2 rfl rfl) <| sq z8 (oFA (r' := .mp 3 0 1) rfl fF29_1 rfl rfl) <| sq z8 (oSt tF2 rfl rfl rfl (tkI tk0) rfl rfl rfl) <| nl) ?_
  refine Unw.seq ?_
  refine Go.seq ?_
  refine Go.r1 c8 rfl rfl (st1 := mk [(2, .v false [.mp 2 0 0]), (3, .v false [.mp 3 0 0])] [(2, some ⟨0, 0, false, true, false, true, [⟨.imm, 0, 0, .sc (.int .i64 0)⟩, ⟨.imm, 0, 0, .sc (.int .i64 0)⟩]⟩), (3, some ⟨0, 0, false, true, false, true, [⟨.imm, 0, 0, .sc (.int .i64 a_0.Width)⟩, ⟨.imm, 0, 0, .sc (.int .i64 a_0.Length)⟩]⟩)]) (by kernel_rfl) (sq z8 (oLd (cs := [.im 0 _, .im 0 _]) rfl tF29 rfl rfl) <| sq z8 (oSt tF29 rfl rfl rfl (tkI (tkI tk0)) rfl rfl rfl) <| nl) ?_
  refine Unw.seq ?_
  refine Go.ret (Unw.ret ?_)
  cases h
  exact Fin_ret (fin_of rfl rF8 rfl (by kernel_rfl))
theorem L_laws_toStock {a_0 : S_Stock} {r : S_Stock} (h : laws_toStock a_0 = some r) : FL Try.prog cfg 9 [.im 2 true [.sc (.int .i64 a_0.Board), .sc (.int .i64 a_0.Wide), .sc (.int .i64 a_0.Least), .sc (.int .i64 a_0.Stagger)]] = some ([(true, [.im 0 (.sc (.int .i64 r.Board)), .im 0 (.sc (.int .i64 r.Wide)), .im 0 (.sc (.int .i64 r.Least)), .im 0 (.sc (.int .i64 r.Stagger))])], []) := by
  unfold laws_toStock at h
  refine FL_goS (A := [(0, .v true [.im 2 (.sc (.int .i64 a_0.Board)), .im 2 (.sc (.int .i64 a_0.Wide)), .im 2 (.sc (.int .i64 a_0.Least)), .im 2 (.sc (.int .i64 a_0.Stagger))])]) (B := [(0, none)]) (nt := 17) rfl rfl Try.func9 rfl rfl rfl rfl ?_
  refine Go.seq ?_
  refine Go.r0 c9 rfl rfl (sq z9 (oBx rfl tF25 rfl (tkI (tkI (tkI (tkI tk0))))) <| sq z9 (oAl rfl tF31 (tkI (tkI (tkI (tkI tk0))))) <| nl) ?_
  refine Unw.seq ?_
  refine Go.seq ?_
  refine Go.r0 c9 rfl rfl (sq z9 (oAl rfl tF31 (tkI (tkI (tkI (tkI tk0))))) <| nl) ?_
  refine Unw.seq ?_
  refine Go.seq ?_
  refine Go.r0 c9 rfl rfl (sq z9 (oFA (r' := .mp 1 0 0) rfl fF25_0 rfl rfl) <| sq z9 (oLd (cs := [.im 0 _]) rfl tF2 rfl rfl) <| sq z9 (oFA (r' := .mp 3 0 0) rfl fF31_0 rfl rfl) <| sq z9 (oSt tF2 rfl rfl rfl (tkI tk0) rfl rfl rfl) <| nl) ?_
  refine Unw.seq ?_
  refine Go.seq ?_
  refine Go.r1 c9 rfl rfl (st1 := mk [(1, .v false [.mp 1 0 0]), (2, .v false [.mp 2 0 0]), (3, .v false [.mp 3 0 0])] [(1, some ⟨0, 0, false, true, false, true, [⟨.imm, 0, 0, .sc (.int .i64 a_0.Board)⟩, ⟨.imm, 0, 0, .sc (.int .i64 a_0.Wide)⟩, ⟨.imm, 0, 0, .sc (.int .i64 a_0.Least)⟩, ⟨.imm, 0, 0, .sc (.int .i64 a_0.Stagger)⟩]⟩), (2, some ⟨0, 0, false, true, false, true, [⟨.imm, 0, 0, .sc (.int .i64 0)⟩, ⟨.imm, 0, 0, .sc (.int .i64 0)⟩, ⟨.imm, 0, 0, .sc (.int .i64 0)⟩, ⟨.imm, 0, 0, .sc (.int .i64 0)⟩]⟩), (3, some ⟨0, 0, false, true, false, true, [⟨.imm, 0, 0, .sc (.int .i64 a_0.Board)⟩, ⟨.imm, 0, 0, .sc (.int .i64 0)⟩, ⟨.imm, 0, 0, .sc (.int .i64 0)⟩, ⟨.imm, 0, 0, .sc (.int .i64 0)⟩]⟩)]) (by kernel_rfl) (sq z9 (oFA (r' := .mp 1 0 1) rfl fF25_1 rfl rfl) <| sq z9 (oLd (cs := [.im 0 _]) rfl tF2 rfl rfl) <| sq z9 (oFA (r' := .mp 3 0 1) rfl fF31_1 rfl rfl) <| sq z9 (oSt tF2 rfl rfl rfl (tkI tk0) rfl rfl rfl) <| nl) ?_
  refine Unw.seq ?_
  refine Go.seq ?_
  refine Go.r1 c9 rfl rfl (st1 := mk [(1, .v false [.mp 1 0 0]), (2, .v false [.mp 2 0 0]), (3, .v false [.mp 3 0 0])] [(1, some ⟨0, 0, false, true, false, true, [⟨.imm, 0, 0, .sc (.int .i64 a_0.Board)⟩, ⟨.imm, 0, 0, .sc (.int .i64 a_0.Wide)⟩, ⟨.imm, 0, 0, .sc (.int .i64 a_0.Least)⟩, ⟨.imm, 0, 0, .sc (.int .i64 a_0.Stagger)⟩]⟩), (2, some ⟨0, 0, false, true, false, true, [⟨.imm, 0, 0, .sc (.int .i64 0)⟩, ⟨.imm, 0, 0, .sc (.int .i64 0)⟩, ⟨.imm, 0, 0, .sc (.int .i64 0)⟩, ⟨.imm, 0, 0, .sc (.int .i64 0)⟩]⟩), (3, some ⟨0, 0, false, true, false, true, [⟨.imm, 0, 0, .sc (.int .i64 a_0.Board)⟩, ⟨.imm, 0, 0, .sc (.int .i64 a_0.Wide)⟩, ⟨.imm, 0, 0, .sc (.int .i64 0)⟩, ⟨.imm, 0, 0, .sc (.int .i64 0)⟩]⟩)]) (by kernel_rfl) (sq z9 (oFA (r' := .mp 1 0 2) rfl fF25_2 rfl rfl) <| sq z9 (oLd (cs := [.im 0 _]) rfl tF2 rfl rfl) <| sq z9 (oFA (r' := .mp 3 0 2) rfl fF31_2 rfl rfl) <| sq z9 (oSt tF2 rfl rfl rfl (tkI tk0) rfl rfl rfl) <| nl) ?_
  refine Unw.seq ?_
  refine Go.seq ?_
  refine Go.r1 c9 rfl rfl (st1 := mk [(1, .v false [.mp 1 0 0]), (2, .v false [.mp 2 0 0]), (3, .v false [.mp 3 0 0])] [(1, some ⟨0, 0, false, true, false, true, [⟨.imm, 0, 0, .sc (.int .i64 a_0.Board)⟩, ⟨.imm, 0, 0, .sc (.int .i64 a_0.Wide)⟩, ⟨.imm, 0, 0, .sc (.int .i64 a_0.Least)⟩, ⟨.imm, 0, 0, .sc (.int .i64 a_0.Stagger)⟩]⟩), (2, some ⟨0, 0, false, true, false, true, [⟨.imm, 0, 0, .sc (.int .i64 0)⟩, ⟨.imm, 0, 0, .sc (.int .i64 0)⟩, ⟨.imm, 0, 0, .sc (.int .i64 0)⟩, ⟨.imm, 0, 0, .sc (.int .i64 0)⟩]⟩), (3, some ⟨0, 0, false, true, false, true, [⟨.imm, 0, 0, .sc (.int .i64 a_0.Board)⟩, ⟨.imm, 0, 0, .sc (.int .i64 a_0.Wide)⟩, ⟨.imm, 0, 0, .sc (.int .i64 a_0.Least)⟩, ⟨.imm, 0, 0, .sc (.int .i64 0)⟩]⟩)]) (by kernel_rfl) (sq z9 (oFA (r' := .mp 1 0 3) rfl fF25_3 rfl rfl) <| sq z9 (oLd (cs := [.im 0 _]) rfl tF2 rfl rfl) <| sq z9 (oFA (r' := .mp 3 0 3) rfl fF31_3 rfl rfl) <| sq z9 (oSt tF2 rfl rfl rfl (tkI tk0) rfl rfl rfl) <| nl) ?_
  refine Unw.seq ?_
  refine Go.seq ?_
  refine Go.r1 c9 rfl rfl (st1 := mk [(2, .v false [.mp 2 0 0]), (3, .v false [.mp 3 0 0])] [(2, some ⟨0, 0, false, true, false, true, [⟨.imm, 0, 0, .sc (.int .i64 0)⟩, ⟨.imm, 0, 0, .sc (.int .i64 0)⟩, ⟨.imm, 0, 0, .sc (.int .i64 0)⟩, ⟨.imm, 0, 0, .sc (.int .i64 0)⟩]⟩), (3, some ⟨0, 0, false, true, false, true, [⟨.imm, 0, 0, .sc (.int .i64 a_0.Board)⟩, ⟨.imm, 0, 0, .sc (.int .i64 a_0.Wide)⟩, ⟨.imm, 0, 0, .sc (.int .i64 a_0.Least)⟩, ⟨.imm, 0, 0, .sc (.int .i64 a_0.Stagger)⟩]⟩)]) (by kernel_rfl) (sq z9 (oLd (cs := [.im 0 _, .im 0 _, .im 0 _, .im 0 _]) rfl tF31 rfl rfl) <| sq z9 (oSt tF31 rfl rfl rfl (tkI (tkI (tkI (tkI tk0)))) rfl rfl rfl) <| nl) ?_
  refine Unw.seq ?_
  refine Go.ret (Unw.ret ?_)
  cases h
  exact Fin_ret (fin_of rfl rF9 rfl (by kernel_rfl))
theorem L_spec_l00In {n_0 : Int} {low_1 : Int} {high_2 : Int} {r : Bool} (h : spec_l00In n_0 low_1 high_2 = some r) : FL Try.prog cfg 35 [.im 2 false [.sc (.int .i64 n_0)], .im 2 false [.sc (.int .i64 low_1)], .im 2 false [.sc (.int .i64 high_2)]] = some ([(false, [.im 0 (.sc (.bool r))])], []) := by
  unfold spec_l00In at h
  refine FL_goS (A := [(0, .v false [.im 2 (.sc (.int .i64 n_0))]), (1, .v false [.im 2 (.sc (.int .i64 low_1))]), (2, .v false [.im 2 (.sc (.int .i64 high_2))])]) (B := [(0, none), (1, none), (2, none)]) (nt := 15) rfl rfl Try.func35 rfl rfl rfl rfl ?_
  refine Go.seq ?_
  refine Go.r0 c35 rfl rfl (sq z35 (oAsI rfl rfl) <| nl) ?_
  refine Unw.seq ?_
  refine Go.seq ?_
  refine Go.rX c35 rfl rfl rfl (mk [(6, bv ((decide (n_0 ≥ low_1)) && (decide (n_0 ≤ high_2))))] []) ?_ ?_
  · by_cases hc1 : n_0 ≥ low_1
    · exact ⟨_, sq z35 (oMv rfl rfl) <| sq z35 (oMv rfl rfl) <| sq z35 (oBi rfl rfl rfl rfl) <| sq z35 (oMv rfl rfl) <| sgT z35 rfl rfl (iDec.2 hc1) (oMv rfl rfl) <| sgT z35 rfl rfl (iDec.2 hc1) (oMv rfl rfl) <| sgT z35 rfl rfl (iDec.2 hc1) (oBi rfl rfl rfl rfl) <| sq z35 (oPkT rfl rfl (iDec.2 hc1) rfl) <| sq z35 (oAsI rfl rfl) <| nl, (Eq.trans (b := (fun t_6_m1 : Bool => mk [(6, bv t_6_m1)] []) (decide (n_0 ≤ high_2))) (by kernel_rfl) (congrArg (fun t_6_m1 : Bool => mk [(6, bv t_6_m1)] []) (by first | rfl | simp [(iDec.2 hc1)])))⟩
    · exact ⟨_, sq z35 (oMv rfl rfl) <| sq z35 (oMv rfl rfl) <| sq z35 (oBi rfl rfl rfl rfl) <| sq z35 (oMv rfl rfl) <| sgF rfl rfl (byF iDec hc1) rfl <| sgF rfl rfl (byF iDec hc1) rfl <| sgF rfl rfl (byF iDec hc1) rfl <| sq z35 (oPkF rfl rfl (byF iDec hc1) rfl) <| sq z35 (oAsI rfl rfl) <| nl, (Eq.trans (b := (fun t_6_m1 : Bool => mk [(6, bv t_6_m1)] []) false) (by kernel_rfl) (congrArg (fun t_6_m1 : Bool => mk [(6, bv t_6_m1)] []) (by first | rfl | simp [(byF iDec hc1)])))⟩
  · refine Unw.seq ?_
    refine Go.ret (Unw.ret ?_)
    cases h
    exact Fin_ret (fin_of rfl rF35 rfl (by kernel_rfl))
theorem L_spec_l30Room {r_0 : S_Room} {r : Bool} (h : spec_l30Room r_0 = some r) : FL Try.prog cfg 39 [.im 2 false [.cp [.sc (.int .i64 r_0.Width), .sc (.int .i64 r_0.Length)] 0]] = some ([(false, [.im 0 (.sc (.bool r))])], []) := by
  unfold spec_l30Room at h
  refine FL_goS (A := [(0, .v false [.im 2 (.cp [.sc (.int .i64 r_0.Width), .sc (.int .i64 r_0.Length)] 0)])]) (B := [(0, none)]) (nt := 15) rfl rfl Try.func39 rfl rfl rfl rfl ?_
  refine Go.seq ?_
  refine Go.r0 c39 rfl rfl (sq z39 (oAsI rfl rfl) <| nl) ?_
  refine Unw.seq ?_
  refine Go.seq ?_
  obtain ⟨x7, hx7, h⟩ := bs h
  obtain ⟨t_2_m1, hm2, h⟩ := bs h
  refine Go.rX c39 rfl rfl rfl (mk [(2, bv t_2_m1)] []) ?_ ?_
  · by_cases hc1 : x7 = true
    · rw [if_pos hc1] at hm2
      obtain ⟨x13, hx13, hm2⟩ := bs hm2
      cases hm2
      exact ⟨_, sq z39 (oMv rfl rfl) <| sq z39 (oNl rfl rfl rfl) <| sq z39 (oFA (r' := .im 2 _) rfl fF29_0 rfl rfl) <| sq z39 (oLd (cs := [.im 2 _]) rfl tF2 rfl rfl) <| sq z39 (oCa (xs := [.v false [.im 2 _], .v false [.im 0 _], .v false [.im 0 _]]) (vs := [(false, [.im 0 _])]) (v := .v false [.im 0 _]) (L_spec_l00In hx7) rfl rfl kF35_2_2_2 rfl (ppC rfl (ppC rfl (ppC rfl pp0))) rfl rfl pb0 rfl rfl rfl) <| sq z39 (oMv rfl rfl) <| sgT z39 rfl rfl (Iff.rfl.2 hc1) (oMv rfl rfl) <| sgT z39 rfl rfl (Iff.rfl.2 hc1) (oNl rfl rfl rfl) <| sgT z39 rfl rfl (Iff.rfl.2 hc1) (oFA (r' := .im 2 _) rfl fF29_1 rfl rfl) <| sgT z39 rfl rfl (Iff.rfl.2 hc1) (oLd (cs := [.im 2 _]) rfl tF2 rfl rfl) <| sgT z39 rfl rfl (Iff.rfl.2 hc1) (oCa (xs := [.v false [.im 2 _], .v false [.im 0 _], .v false [.im 0 _]]) (vs := [(false, [.im 0 _])]) (v := .v false [.im 0 _]) (L_spec_l00In hx13) rfl rfl kF35_2_2_2 rfl (ppC rfl (ppC rfl (ppC rfl pp0))) rfl rfl pb0 rfl rfl rfl) <| sq z39 (oPkT rfl rfl (Iff.rfl.2 hc1) rfl) <| sq z39 (oAsI rfl rfl) <| nl, (by kernel_rfl)⟩
    · rw [if_neg hc1] at hm2
      cases hm2
      exact ⟨_, sq z39 (oMv rfl rfl) <| sq z39 (oNl rfl rfl rfl) <| sq z39 (oFA (r' := .im 2 _) rfl fF29_0 rfl rfl) <| sq z39 (oLd (cs := [.im 2 _]) rfl tF2 rfl rfl) <| sq z39 (oCa (xs := [.v false [.im 2 _], .v false [.im 0 _], .v false [.im 0 _]]) (vs := [(false, [.im 0 _])]) (v := .v false [.im 0 _]) (L_spec_l00In hx7) rfl rfl kF35_2_2_2 rfl (ppC rfl (ppC rfl (ppC rfl pp0))) rfl rfl pb0 rfl rfl rfl) <| sq z39 (oMv rfl rfl) <| sgF rfl rfl (byF Iff.rfl hc1) rfl <| sgF rfl rfl (byF Iff.rfl hc1) rfl <| sgF rfl rfl (byF Iff.rfl hc1) rfl <| sgF rfl rfl (byF Iff.rfl hc1) rfl <| sgF rfl rfl (byF Iff.rfl hc1) rfl <| sq z39 (oPkF rfl rfl (byF Iff.rfl hc1) rfl) <| sq z39 (oAsI rfl rfl) <| nl, (by kernel_rfl)⟩
  · refine Unw.seq ?_
    refine Go.ret (Unw.ret ?_)
    cases h
    exact Fin_ret (fin_of rfl rF39 rfl (by kernel_rfl))
theorem L_spec_l30Stock {k_0 : S_Stock} {r : Bool} (h : spec_l30Stock k_0 = some r) : FL Try.prog cfg 40 [.im 2 false [.cp [.sc (.int .i64 k_0.Board), .sc (.int .i64 k_0.Wide), .sc (.int .i64 k_0.Least), .sc (.int .i64 k_0.Stagger)] 0]] = some ([(false, [.im 0 (.sc (.bool r))])], []) := by
  unfold spec_l30Stock at h
  refine FL_goS (A := [(0, .v false [.im 2 (.cp [.sc (.int .i64 k_0.Board), .sc (.int .i64 k_0.Wide), .sc (.int .i64 k_0.Least), .sc (.int .i64 k_0.Stagger)] 0)])]) (B := [(0, none)]) (nt := 38) rfl rfl Try.func40 rfl rfl rfl rfl ?_
  refine Go.seq ?_
  refine Go.r0 c40 rfl rfl (sq z40 (oAsI rfl rfl) <| nl) ?_
  refine Unw.seq ?_
  refine Go.seq ?_
  obtain ⟨x7, hx7, h⟩ := bs h
  obtain ⟨t_2_m1, hm4, h⟩ := bs h
  refine Go.dr c40 rfl rfl rfl rfl (mk [(2, bv t_2_m1)] []) ?_ ?_
  · by_cases hc1 : x7 = true
    · rw [if_pos hc1] at hm4
      obtain ⟨x13, hx13, hm4⟩ := bs hm4
      by_cases hc2 : x13 = true
      · rw [if_pos hc2] at hm4
        obtain ⟨x24, hx24, hm4⟩ := bs hm4
        by_cases hc3 : x24 = true
        · rw [if_pos hc3] at hm4
          obtain ⟨x35, hx35, hm4⟩ := bs hm4
          obtain ⟨x36, hx36, hm4⟩ := bs hm4
          cases hm4
          exact sT rfl (dN z40 rfl (oMv rfl rfl)) <| sT rfl (dN z40 rfl (oNl rfl rfl rfl)) <| sT rfl (dN z40 rfl (oFA (r' := .im 2 _) rfl fF31_0 rfl rfl)) <| sT rfl (dN z40 rfl (oLd (cs := [.im 2 _]) rfl tF2 rfl rfl)) <| sS (dN z40 rfl (oCa (xs := [.v false [.im 2 _], .v false [.im 0 _], .v false [.im 0 _]]) (vs := [(false, [.im 0 _])]) (v := .v false [.im 0 _]) (L_spec_l00In hx7) rfl rfl kF35_2_2_2 rfl (ppC rfl (ppC rfl (ppC rfl pp0))) rfl rfl pb0 rfl rfl rfl)) (sT rfl (dN z40 rfl (oMv rfl rfl)) <| sT rfl (dT z40 rfl rfl rfl (Iff.rfl.2 hc1) (oMv rfl rfl)) <| sT rfl (dT z40 rfl rfl rfl (Iff.rfl.2 hc1) (oNl rfl rfl rfl)) <| sT rfl (dT z40 rfl rfl rfl (Iff.rfl.2 hc1) (oFA (r' := .im 2 _) rfl fF31_1 rfl rfl)) <| sT rfl (dT z40 rfl rfl rfl (Iff.rfl.2 hc1) (oLd (cs := [.im 2 _]) rfl tF2 rfl rfl)) <| sS (dT z40 rfl rfl rfl (Iff.rfl.2 hc1) (oCa (xs := [.v false [.im 2 _], .v false [.im 0 _], .v false [.im 0 _]]) (vs := [(false, [.im 0 _])]) (v := .v false [.im 0 _]) (L_spec_l00In hx13) rfl rfl kF35_2_2_2 rfl (ppC rfl (ppC rfl (ppC rfl pp0))) rfl rfl pb0 rfl rfl rfl)) (sT rfl (dN z40 rfl (oPkT rfl rfl (Iff.rfl.2 hc1) rfl)) <| sT rfl (dN z40 rfl (oMv rfl rfl)) <| sT rfl (dT z40 rfl rfl rfl (Iff.rfl.2 hc2) (oMv rfl rfl)) <| sT rfl (dT z40 rfl rfl rfl (Iff.rfl.2 hc2) (oNl rfl rfl rfl)) <| sT rfl (dT z40 rfl rfl rfl (Iff.rfl.2 hc2) (oFA (r' := .im 2 _) rfl fF31_2 rfl rfl)) <| sT rfl (dT z40 rfl rfl rfl (Iff.rfl.2 hc2) (oLd (cs := [.im 2 _]) rfl tF2 rfl rfl)) <| sT rfl (dT z40 rfl rfl rfl (Iff.rfl.2 hc2) (oMv rfl rfl)) <| sT rfl (dT z40 rfl rfl rfl (Iff.rfl.2 hc2) (oNl rfl rfl rfl)) <| sT rfl (dT z40 rfl rfl rfl (Iff.rfl.2 hc2) (oFA (r' := .im 2 _) rfl fF31_0 rfl rfl)) <| sT rfl (dT z40 rfl rfl rfl (Iff.rfl.2 hc2) (oLd (cs := [.im 2 _]) rfl tF2 rfl rfl)) <| sS (dT z40 rfl rfl rfl (Iff.rfl.2 hc2) (oCa (xs := [.v false [.im 2 _], .v false [.im 0 _], .v false [.im 2 _]]) (vs := [(false, [.im 0 _])]) (v := .v false [.im 0 _]) (L_spec_l00In hx24) rfl rfl kF35_2_2_2 rfl (ppC rfl (ppC rfl (ppC rfl pp0))) rfl rfl pb0 rfl rfl rfl)) (sT rfl (dN z40 rfl (oPkT rfl rfl (Iff.rfl.2 hc2) rfl)) <| sT rfl (dN z40 rfl (oMv rfl rfl)) <| sT rfl (dT z40 rfl rfl rfl (Iff.rfl.2 hc3) (oMv rfl rfl)) <| sT rfl (dT z40 rfl rfl rfl (Iff.rfl.2 hc3) (oNl rfl rfl rfl)) <| sT rfl (dT z40 rfl rfl rfl (Iff.rfl.2 hc3) (oFA (r' := .im 2 _) rfl fF31_3 rfl rfl)) <| sT rfl (dT z40 rfl rfl rfl (Iff.rfl.2 hc3) (oLd (cs := [.im 2 _]) rfl tF2 rfl rfl)) <| sT rfl (dT z40 rfl rfl rfl (Iff.rfl.2 hc3) (oMv rfl rfl)) <| sT rfl (dT z40 rfl rfl rfl (Iff.rfl.2 hc3) (oNl rfl rfl rfl)) <| sT rfl (dT z40 rfl rfl rfl (Iff.rfl.2 hc3) (oFA (r' := .im 2 _) rfl fF31_0 rfl rfl)) <| sT rfl (dT z40 rfl rfl rfl (Iff.rfl.2 hc3) (oLd (cs := [.im 2 _]) rfl tF2 rfl rfl)) <| sT rfl (dT z40 rfl rfl rfl (Iff.rfl.2 hc3) (oQuo rfl hx35 rfl rfl)) <| sS (dT z40 rfl rfl rfl (Iff.rfl.2 hc3) (oCa (xs := [.v false [.im 2 _], .v false [.im 0 _], .v false [.im 0 _]]) (vs := [(false, [.im 0 _])]) (v := .v false [.im 0 _]) (L_spec_l00In hx36) rfl rfl kF35_2_2_2 rfl (ppC rfl (ppC rfl (ppC rfl pp0))) rfl rfl pb0 rfl rfl rfl)) (sT rfl (dN z40 rfl (oPkT rfl rfl (Iff.rfl.2 hc3) rfl)) <| sS (dN z40 rfl (oAsI rfl rfl)) (sD (by kernel_rfl))))))
        · rw [if_neg hc3] at hm4
          cases hm4
          exact sT rfl (dN z40 rfl (oMv rfl rfl)) <| sT rfl (dN z40 rfl (oNl rfl rfl rfl)) <| sT rfl (dN z40 rfl (oFA (r' := .im 2 _) rfl fF31_0 rfl rfl)) <| sT rfl (dN z40 rfl (oLd (cs := [.im 2 _]) rfl tF2 rfl rfl)) <| sS (dN z40 rfl (oCa (xs := [.v false [.im 2 _], .v false [.im 0 _], .v false [.im 0 _]]) (vs := [(false, [.im 0 _])]) (v := .v false [.im 0 _]) (L_spec_l00In hx7) rfl rfl kF35_2_2_2 rfl (ppC rfl (ppC rfl (ppC rfl pp0))) rfl rfl pb0 rfl rfl rfl)) (sT rfl (dN z40 rfl (oMv rfl rfl)) <| sT rfl (dT z40 rfl rfl rfl (Iff.rfl.2 hc1) (oMv rfl rfl)) <| sT rfl (dT z40 rfl rfl rfl (Iff.rfl.2 hc1) (oNl rfl rfl rfl)) <| sT rfl (dT z40 rfl rfl rfl (Iff.rfl.2 hc1) (oFA (r' := .im 2 _) rfl fF31_1 rfl rfl)) <| sT rfl (dT z40 rfl rfl rfl (Iff.rfl.2 hc1) (oLd (cs := [.im 2 _]) rfl tF2 rfl rfl)) <| sS (dT z40 rfl rfl rfl (Iff.rfl.2 hc1) (oCa (xs := [.v false [.im 2 _], .v false [.im 0 _], .v false [.im 0 _]]) (vs := [(false, [.im 0 _])]) (v := .v false [.im 0 _]) (L_spec_l00In hx13) rfl rfl kF35_2_2_2 rfl (ppC rfl (ppC rfl (ppC rfl pp0))) rfl rfl pb0 rfl rfl rfl)) (sT rfl (dN z40 rfl (oPkT rfl rfl (Iff.rfl.2 hc1) rfl)) <| sT rfl (dN z40 rfl (oMv rfl rfl)) <| sT rfl (dT z40 rfl rfl rfl (Iff.rfl.2 hc2) (oMv rfl rfl)) <| sT rfl (dT z40 rfl rfl rfl (Iff.rfl.2 hc2) (oNl rfl rfl rfl)) <| sT rfl (dT z40 rfl rfl rfl (Iff.rfl.2 hc2) (oFA (r' := .im 2 _) rfl fF31_2 rfl rfl)) <| sT rfl (dT z40 rfl rfl rfl (Iff.rfl.2 hc2) (oLd (cs := [.im 2 _]) rfl tF2 rfl rfl)) <| sT rfl (dT z40 rfl rfl rfl (Iff.rfl.2 hc2) (oMv rfl rfl)) <| sT rfl (dT z40 rfl rfl rfl (Iff.rfl.2 hc2) (oNl rfl rfl rfl)) <| sT rfl (dT z40 rfl rfl rfl (Iff.rfl.2 hc2) (oFA (r' := .im 2 _) rfl fF31_0 rfl rfl)) <| sT rfl (dT z40 rfl rfl rfl (Iff.rfl.2 hc2) (oLd (cs := [.im 2 _]) rfl tF2 rfl rfl)) <| sS (dT z40 rfl rfl rfl (Iff.rfl.2 hc2) (oCa (xs := [.v false [.im 2 _], .v false [.im 0 _], .v false [.im 2 _]]) (vs := [(false, [.im 0 _])]) (v := .v false [.im 0 _]) (L_spec_l00In hx24) rfl rfl kF35_2_2_2 rfl (ppC rfl (ppC rfl (ppC rfl pp0))) rfl rfl pb0 rfl rfl rfl)) (sT rfl (dN z40 rfl (oPkT rfl rfl (Iff.rfl.2 hc2) rfl)) <| sT rfl (dN z40 rfl (oMv rfl rfl)) <| sT rfl (dF rfl rfl rfl (byF Iff.rfl hc3) rfl) <| sT rfl (dF rfl rfl rfl (byF Iff.rfl hc3) rfl) <| sT rfl (dF rfl rfl rfl (byF Iff.rfl hc3) rfl) <| sT rfl (dF rfl rfl rfl (byF Iff.rfl hc3) rfl) <| sT rfl (dF rfl rfl rfl (byF Iff.rfl hc3) rfl) <| sT rfl (dF rfl rfl rfl (byF Iff.rfl hc3) rfl) <| sT rfl (dF rfl rfl rfl (byF Iff.rfl hc3) rfl) <| sT rfl (dF rfl rfl rfl (byF Iff.rfl hc3) rfl) <| sT rfl (dF rfl rfl rfl (byF Iff.rfl hc3) rfl) <| sS (dF rfl rfl rfl (byF Iff.rfl hc3) rfl) (sT rfl (dN z40 rfl (oPkF rfl rfl (byF Iff.rfl hc3) rfl)) <| sS (dN z40 rfl (oAsI rfl rfl)) (sD (by kernel_rfl))))))
      · rw [if_neg hc2] at hm4
        cases hm4
        exact sT rfl (dN z40 rfl (oMv rfl rfl)) <| sT rfl (dN z40 rfl (oNl rfl rfl rfl)) <| sT rfl (dN z40 rfl (oFA (r' := .im 2 _) rfl fF31_0 rfl rfl)) <| sT rfl (dN z40 rfl (oLd (cs := [.im 2 _]) rfl tF2 rfl rfl)) <| sS (dN z40 rfl (oCa (xs := [.v false [.im 2 _], .v false [.im 0 _], .v false [.im 0 _]]) (vs := [(false, [.im 0 _])]) (v := .v false [.im 0 _]) (L_spec_l00In hx7) rfl rfl kF35_2_2_2 rfl (ppC rfl (ppC rfl (ppC rfl pp0))) rfl rfl pb0 rfl rfl rfl)) (sT rfl (dN z40 rfl (oMv rfl rfl)) <| sT rfl (dT z40 rfl rfl rfl (Iff.rfl.2 hc1) (oMv rfl rfl)) <| sT rfl (dT z40 rfl rfl rfl (Iff.rfl.2 hc1) (oNl rfl rfl rfl)) <| sT rfl (dT z40 rfl rfl rfl (Iff.rfl.2 hc1) (oFA (r' := .im 2 _) rfl fF31_1 rfl rfl)) <| sT rfl (dT z40 rfl rfl rfl (Iff.rfl.2 hc1) (oLd (cs := [.im 2 _]) rfl tF2 rfl rfl)) <| sS (dT z40 rfl rfl rfl (Iff.rfl.2 hc1) (oCa (xs := [.v false [.im 2 _], .v false [.im 0 _], .v false [.im 0 _]]) (vs := [(false, [.im 0 _])]) (v := .v false [.im 0 _]) (L_spec_l00In hx13) rfl rfl kF35_2_2_2 rfl (ppC rfl (ppC rfl (ppC rfl pp0))) rfl rfl pb0 rfl rfl rfl)) (sT rfl (dN z40 rfl (oPkT rfl rfl (Iff.rfl.2 hc1) rfl)) <| sT rfl (dN z40 rfl (oMv rfl rfl)) <| sT rfl (dF rfl rfl rfl (byF Iff.rfl hc2) rfl) <| sT rfl (dF rfl rfl rfl (byF Iff.rfl hc2) rfl) <| sT rfl (dF rfl rfl rfl (byF Iff.rfl hc2) rfl) <| sT rfl (dF rfl rfl rfl (byF Iff.rfl hc2) rfl) <| sT rfl (dF rfl rfl rfl (byF Iff.rfl hc2) rfl) <| sT rfl (dF rfl rfl rfl (byF Iff.rfl hc2) rfl) <| sT rfl (dF rfl rfl rfl (byF Iff.rfl hc2) rfl) <| sT rfl (dF rfl rfl rfl (byF Iff.rfl hc2) rfl) <| sS (dF rfl rfl rfl (byF Iff.rfl hc2) rfl) (sT rfl (dN z40 rfl (oPkF rfl rfl (byF Iff.rfl hc2) rfl)) <| sT rfl (dN z40 rfl (oMv rfl rfl)) <| sT rfl (dF rfl rfl rfl rfl rfl) <| sT rfl (dF rfl rfl rfl rfl rfl) <| sT rfl (dF rfl rfl rfl rfl rfl) <| sT rfl (dF rfl rfl rfl rfl rfl) <| sT rfl (dF rfl rfl rfl rfl rfl) <| sT rfl (dF rfl rfl rfl rfl rfl) <| sT rfl (dF rfl rfl rfl rfl rfl) <| sT rfl (dF rfl rfl rfl rfl rfl) <| sT rfl (dF rfl rfl rfl rfl rfl) <| sS (dF rfl rfl rfl rfl rfl) (sT rfl (dN z40 rfl (oPkF rfl rfl rfl rfl)) <| sS (dN z40 rfl (oAsI rfl rfl)) (sD (by kernel_rfl))))))
    · rw [if_neg hc1] at hm4
      cases hm4
      exact sT rfl (dN z40 rfl (oMv rfl rfl)) <| sT rfl (dN z40 rfl (oNl rfl rfl rfl)) <| sT rfl (dN z40 rfl (oFA (r' := .im 2 _) rfl fF31_0 rfl rfl)) <| sT rfl (dN z40 rfl (oLd (cs := [.im 2 _]) rfl tF2 rfl rfl)) <| sS (dN z40 rfl (oCa (xs := [.v false [.im 2 _], .v false [.im 0 _], .v false [.im 0 _]]) (vs := [(false, [.im 0 _])]) (v := .v false [.im 0 _]) (L_spec_l00In hx7) rfl rfl kF35_2_2_2 rfl (ppC rfl (ppC rfl (ppC rfl pp0))) rfl rfl pb0 rfl rfl rfl)) (sT rfl (dN z40 rfl (oMv rfl rfl)) <| sT rfl (dF rfl rfl rfl (byF Iff.rfl hc1) rfl) <| sT rfl (dF rfl rfl rfl (byF Iff.rfl hc1) rfl) <| sT rfl (dF rfl rfl rfl (byF Iff.rfl hc1) rfl) <| sT rfl (dF rfl rfl rfl (byF Iff.rfl hc1) rfl) <| sS (dF rfl rfl rfl (byF Iff.rfl hc1) rfl) (sT rfl (dN z40 rfl (oPkF rfl rfl (byF Iff.rfl hc1) rfl)) <| sT rfl (dN z40 rfl (oMv rfl rfl)) <| sT rfl (dF rfl rfl rfl rfl rfl) <| sT rfl (dF rfl rfl rfl rfl rfl) <| sT rfl (dF rfl rfl rfl rfl rfl) <| sT rfl (dF rfl rfl rfl rfl rfl) <| sT rfl (dF rfl rfl rfl rfl rfl) <| sT rfl (dF rfl rfl rfl rfl rfl) <| sT rfl (dF rfl rfl rfl rfl rfl) <| sT rfl (dF rfl rfl rfl rfl rfl) <| sS (dF rfl rfl rfl rfl rfl) (sT rfl (dN z40 rfl (oPkF rfl rfl rfl rfl)) <| sT rfl (dN z40 rfl (oMv rfl rfl)) <| sT rfl (dF rfl rfl rfl rfl rfl) <| sT rfl (dF rfl rfl rfl rfl rfl) <| sT rfl (dF rfl rfl rfl rfl rfl) <| sT rfl (dF rfl rfl rfl rfl rfl) <| sT rfl (dF rfl rfl rfl rfl rfl) <| sT rfl (dF rfl rfl rfl rfl rfl) <| sT rfl (dF rfl rfl rfl rfl rfl) <| sT rfl (dF rfl rfl rfl rfl rfl) <| sT rfl (dF rfl rfl rfl rfl rfl) <| sS (dF rfl rfl rfl rfl rfl) (sT rfl (dN z40 rfl (oPkF rfl rfl rfl rfl)) <| sS (dN z40 rfl (oAsI rfl rfl)) (sD (by kernel_rfl))))))
  · refine Unw.seq ?_
    refine Go.ret (Unw.ret ?_)
    cases h
    exact Fin_ret (fin_of rfl rF40 rfl (by kernel_rfl))
theorem L_spec_l30Ok {r_0 : S_Room} {k_1 : S_Stock} {r : Bool} (h : spec_l30Ok r_0 k_1 = some r) : FL Try.prog cfg 21 [.im 2 false [.cp [.sc (.int .i64 r_0.Width), .sc (.int .i64 r_0.Length)] 0], .im 2 false [.cp [.sc (.int .i64 k_1.Board), .sc (.int .i64 k_1.Wide), .sc (.int .i64 k_1.Least), .sc (.int .i64 k_1.Stagger)] 0]] = some ([(false, [.im 0 (.sc (.bool r))])], []) := by
  unfold spec_l30Ok at h
  refine FL_goS (A := [(0, .v false [.im 2 (.cp [.sc (.int .i64 r_0.Width), .sc (.int .i64 r_0.Length)] 0)]), (1, .v false [.im 2 (.cp [.sc (.int .i64 k_1.Board), .sc (.int .i64 k_1.Wide), .sc (.int .i64 k_1.Least), .sc (.int .i64 k_1.Stagger)] 0)])]) (B := [(0, none), (1, none)]) (nt := 11) rfl rfl Try.func21 rfl rfl rfl rfl ?_
  refine Go.seq ?_
  refine Go.r0 c21 rfl rfl (sq z21 (oAsI rfl rfl) <| nl) ?_
  refine Unw.seq ?_
  refine Go.seq ?_
  obtain ⟨x6, hx6, h⟩ := bs h
  obtain ⟨t_4_m1, hm2, h⟩ := bs h
  refine Go.rX c21 rfl rfl rfl (mk [(4, bv t_4_m1)] []) ?_ ?_
  · by_cases hc1 : x6 = true
    · rw [if_pos hc1] at hm2
      obtain ⟨x9, hx9, hm2⟩ := bs hm2
      cases hm2
      exact ⟨_, sq z21 (oMv rfl rfl) <| sq z21 (oCa (xs := [.v false [.im 2 _]]) (vs := [(false, [.im 0 _])]) (v := .v false [.im 0 _]) (L_spec_l30Room hx6) rfl rfl kF39_44 rfl (ppC rfl pp0) rfl rfl pb0 rfl rfl rfl) <| sq z21 (oMv rfl rfl) <| sgT z21 rfl rfl (Iff.rfl.2 hc1) (oMv rfl rfl) <| sgT z21 rfl rfl (Iff.rfl.2 hc1) (oCa (xs := [.v false [.im 2 _]]) (vs := [(false, [.im 0 _])]) (v := .v false [.im 0 _]) (L_spec_l30Stock hx9) rfl rfl kF40_45 rfl (ppC rfl pp0) rfl rfl pb0 rfl rfl rfl) <| sq z21 (oPkT rfl rfl (Iff.rfl.2 hc1) rfl) <| sq z21 (oAsI rfl rfl) <| nl, (by kernel_rfl)⟩
    · rw [if_neg hc1] at hm2
      cases hm2
      exact ⟨_, sq z21 (oMv rfl rfl) <| sq z21 (oCa (xs := [.v false [.im 2 _]]) (vs := [(false, [.im 0 _])]) (v := .v false [.im 0 _]) (L_spec_l30Room hx6) rfl rfl kF39_44 rfl (ppC rfl pp0) rfl rfl pb0 rfl rfl rfl) <| sq z21 (oMv rfl rfl) <| sgF rfl rfl (byF Iff.rfl hc1) rfl <| sgF rfl rfl (byF Iff.rfl hc1) rfl <| sq z21 (oPkF rfl rfl (byF Iff.rfl hc1) rfl) <| sq z21 (oAsI rfl rfl) <| nl, (by kernel_rfl)⟩
  · refine Unw.seq ?_
    refine Go.ret (Unw.ret ?_)
    cases h
    exact Fin_ret (fin_of rfl rF21 rfl (by kernel_rfl))
theorem L_spec_l28Up {a_0 : Int} {b_1 : Int} {r : Int} (h : spec_l28Up a_0 b_1 = some r) : FL Try.prog cfg 47 [.im 2 false [.sc (.int .i64 a_0)], .im 2 false [.sc (.int .i64 b_1)]] = some ([(false, [.im 0 (.sc (.int .i64 r))])], []) := by
  unfold spec_l28Up at h
  refine FL_goS (A := [(0, .v false [.im 2 (.sc (.int .i64 a_0))]), (1, .v false [.im 2 (.sc (.int .i64 b_1))])]) (B := [(0, none), (1, none)]) (nt := 11) rfl rfl Try.func47 rfl rfl rfl rfl ?_
  refine Go.seq ?_
  refine Go.r0 c47 rfl rfl (sq z47 (oAsI rfl rfl) <| nl) ?_
  refine Unw.seq ?_
  refine Go.seq ?_
  obtain ⟨x10, hx10, h⟩ := bs h
  refine Go.r0 c47 rfl rfl (sq z47 (oMv rfl rfl) <| sq z47 (oMv rfl rfl) <| sq z47 (oBi rfl rfl rfl rfl) <| sq z47 (oBi rfl rfl rfl rfl) <| sq z47 (oMv rfl rfl) <| sq z47 (oQuo rfl hx10 rfl rfl) <| sq z47 (oAsI rfl rfl) <| nl) ?_
  refine Unw.seq ?_
  refine Go.ret (Unw.ret ?_)
  cases h
  exact Fin_ret (fin_of rfl rF47 rfl (by kernel_rfl))
theorem L_spec_l30Rows {r_0 : S_Room} {k_1 : S_Stock} {r : Int} (h : spec_l30Rows r_0 k_1 = some r) : FL Try.prog cfg 27 [.im 2 false [.cp [.sc (.int .i64 r_0.Width), .sc (.int .i64 r_0.Length)] 0], .im 2 false [.cp [.sc (.int .i64 k_1.Board), .sc (.int .i64 k_1.Wide), .sc (.int .i64 k_1.Least), .sc (.int .i64 k_1.Stagger)] 0]] = some ([(false, [.im 0 (.sc (.int .i64 r))])], []) := by
  unfold spec_l30Rows at h
  refine FL_goS (A := [(0, .v false [.im 2 (.cp [.sc (.int .i64 r_0.Width), .sc (.int .i64 r_0.Length)] 0)]), (1, .v false [.im 2 (.cp [.sc (.int .i64 k_1.Board), .sc (.int .i64 k_1.Wide), .sc (.int .i64 k_1.Least), .sc (.int .i64 k_1.Stagger)] 0)])]) (B := [(0, none), (1, none)]) (nt := 14) rfl rfl Try.func27 rfl rfl rfl rfl ?_
  refine Go.seq ?_
  refine Go.r0 c27 rfl rfl (sq z27 (oAsI rfl rfl) <| nl) ?_
  refine Unw.seq ?_
  refine Go.seq ?_
  obtain ⟨x13, hx13, h⟩ := bs h
  refine Go.dr c27 rfl rfl rfl rfl (mk [(4, iv x13)] []) (sT rfl (dN z27 rfl (oMv rfl rfl)) <| sT rfl (dN z27 rfl (oNl rfl rfl rfl)) <| sT rfl (dN z27 rfl (oFA (r' := .im 2 _) rfl fF29_1 rfl rfl)) <| sT rfl (dN z27 rfl (oLd (cs := [.im 2 _]) rfl tF2 rfl rfl)) <| sT rfl (dN z27 rfl (oMv rfl rfl)) <| sT rfl (dN z27 rfl (oNl rfl rfl rfl)) <| sT rfl (dN z27 rfl (oFA (r' := .im 2 _) rfl fF31_1 rfl rfl)) <| sT rfl (dN z27 rfl (oLd (cs := [.im 2 _]) rfl tF2 rfl rfl)) <| sS (dN z27 rfl (oCa (xs := [.v false [.im 2 _], .v false [.im 2 _]]) (vs := [(false, [.im 0 _])]) (v := .v false [.im 0 _]) (L_spec_l28Up hx13) rfl rfl kF47_2_2 rfl (ppC rfl (ppC rfl pp0)) rfl rfl pb0 rfl rfl rfl)) (sS (dN z27 rfl (oAsI rfl rfl)) (sD (by kernel_rfl)))) ?_
  refine Unw.seq ?_
  refine Go.ret (Unw.ret ?_)
  cases h
  exact Fin_ret (fin_of rfl rF27 rfl (by kernel_rfl))
theorem L_spec_l00Own {list_0 : (List Int)} {r : (List Int)} (h : spec_l00Own list_0 = some r) : FL Try.prog cfg 50 [.im 2 false [.row 1 (List.map eI list_0)]] = some ([(false, [.ow 0 1 (List.map eI r)])], []) := by
  unfold spec_l00Own at h
  refine FL_goS (A := [(0, .v false [.im 2 (.row 1 (List.map eI list_0))])]) (B := [(0, none)]) (nt := 6) rfl rfl Try.func50 rfl rfl rfl rfl ?_
  refine Go.seq ?_
  refine Go.r0 c50 rfl rfl (sq z50 (oAsN rfl rfl eF26) <| nl) ?_
  refine Unw.seq ?_
  refine Go.seq ?_
  obtain ⟨x5, hx5, h⟩ := bs h
  refine Go.r0 c50 rfl rfl (sq z50 (oBS (es := List.map eI ([] : List Int)) rfl sF26 rfl pt0 (flat0 rfl fun _ => rfl)) <| sq z50 (oMv rfl rfl) <| sq z50 (oApO (en := eI) (M := list_0) rfl hx5 rfl sF26 rfl rfl uF26 (.inl ⟨_, rfl⟩) rfl rfl rfl rfl el_im (flat0 rfl fun _ => rfl)) <| sq z50 (oAsO rfl rfl rfl rfl rfl) <| nl) ?_
  refine Unw.seq ?_
  refine Go.ret (Unw.ret ?_)
  cases h
  exact Fin_ret (fin_of rfl rF50 rfl (by kernel_rfl))
theorem L_spec_l30Pieces {r_0 : S_Room} {k_1 : S_Stock} {first_2 : Int} {r : ((List Int) × Int)} (h : spec_l30Pieces r_0 k_1 first_2 = some r) : FL Try.prog cfg 29 [.im 2 false [.cp [.sc (.int .i64 r_0.Width), .sc (.int .i64 r_0.Length)] 0], .im 2 false [.cp [.sc (.int .i64 k_1.Board), .sc (.int .i64 k_1.Wide), .sc (.int .i64 k_1.Least), .sc (.int .i64 k_1.Stagger)] 0], .im 2 false [.sc (.int .i64 first_2)]] = some ([(false, [.ow 0 1 (List.map eI r.1)]), (false, [.im 0 (.sc (.int .i64 r.2))])], []) := by
  unfold spec_l30Pieces at h
  refine FL_goS (A := [(0, .v false [.im 2 (.cp [.sc (.int .i64 r_0.Width), .sc (.int .i64 r_0.Length)] 0)]), (1, .v false [.im 2 (.cp [.sc (.int .i64 k_1.Board), .sc (.int .i64 k_1.Wide), .sc (.int .i64 k_1.Least), .sc (.int .i64 k_1.Stagger)] 0)]), (2, .v false [.im 2 (.sc (.int .i64 first_2))])]) (B := [(0, none), (1, none), (2, none)]) (nt := 69) rfl rfl Try.func29 rfl rfl rfl rfl ?_
  refine Go.seq ?_
  refine Go.r0 c29 rfl rfl (sq z29 (oAsN rfl rfl eF26) <| sq z29 (oAsI rfl rfl) <| nl) ?_
  refine Unw.seq ?_
  refine Go.seq ?_
  refine Go.seq ?_
  obtain ⟨x19, hx19, h⟩ := bs h
  refine Go.dr c29 rfl rfl rfl rfl (mk [(0, .v false [.im 2 (.cp [.sc (.int .i64 r_0.Width), .sc (.int .i64 r_0.Length)] 0)]), (1, .v false [.im 2 (.cp [.sc (.int .i64 k_1.Board), .sc (.int .i64 k_1.Wide), .sc (.int .i64 k_1.Least), .sc (.int .i64 k_1.Stagger)] 0)]), (2, iv first_2), (20, bv (!x19))] []) (sT rfl (dN z29 rfl (oMv rfl rfl)) <| sT rfl (dN z29 rfl (oMv rfl rfl)) <| sT rfl (dN z29 rfl (oNl rfl rfl rfl)) <| sT rfl (dN z29 rfl (oFA (r' := .im 2 _) rfl fF31_2 rfl rfl)) <| sT rfl (dN z29 rfl (oLd (cs := [.im 2 _]) rfl tF2 rfl rfl)) <| sT rfl (dN z29 rfl (oMv rfl rfl)) <| sT rfl (dN z29 rfl (oNl rfl rfl rfl)) <| sT rfl (dN z29 rfl (oFA (r' := .im 2 _) rfl fF31_0 rfl rfl)) <| sT rfl (dN z29 rfl (oLd (cs := [.im 2 _]) rfl tF2 rfl rfl)) <| sS (dN z29 rfl (oCa (xs := [.v false [.im 2 _], .v false [.im 2 _], .v false [.im 2 _]]) (vs := [(false, [.im 0 _])]) (v := .v false [.im 0 _]) (L_spec_l00In hx19) rfl rfl kF35_2_2_2 rfl (ppC rfl (ppC rfl (ppC rfl pp0))) rfl rfl pb0 rfl rfl rfl)) (sT rfl (dN z29 rfl (oUn rfl rfl rfl)) <| sD (by kernel_rfl))) ?_
  refine Unw.seq ?_
  by_cases hc1 : x19 = true
  · rw [if_pos hc1] at h
    refine Go.condF rfl (nF (Iff.rfl.2 hc1)) ?_
    refine Go.skip ?_
    refine Unw.seq ?_
    refine Go.seq ?_
    refine Go.seq ?_
    refine Go.r0 c29 rfl rfl (sq z29 (oMv rfl rfl) <| sq z29 (oNl rfl rfl rfl) <| sq z29 (oFA (r' := .im 2 _) rfl fF29_0 rfl rfl) <| sq z29 (oLd (cs := [.im 2 _]) rfl tF2 rfl rfl) <| sq z29 (oMv rfl rfl) <| sq z29 (oBi rfl rfl rfl rfl) <| nl) ?_
    refine Unw.seq ?_
    by_cases hc2 : r_0.Width ≤ first_2
    · rw [if_pos hc2] at h
      refine Go.condT rfl (iDec.2 hc2) ?_
      refine Go.seq ?_
      refine Go.r0 c29 rfl rfl (sq z29 (oMv rfl rfl) <| sq z29 (oNl rfl rfl rfl) <| sq z29 (oFA (r' := .im 2 _) rfl fF29_0 rfl rfl) <| sq z29 (oLd (cs := [.im 2 _]) rfl tF2 rfl rfl) <| sq z29 (oBS (es := List.map eI ([r_0.Width] : List Int)) rfl sF26 rfl (ptC rfl (fxI fx0) rfl pt0) (flat0 rfl fun _ => rfl)) <| sq z29 (oAsO rfl rfl rfl rfl rfl) <| sq z29 (oAsI rfl rfl) <| nl) ?_
      refine Unw.seq ?_
      refine Go.ret (Unw.ret ?_)
      cases h
      exact Fin_ret (fin_of rfl rF29 rfl (by kernel_rfl))
    · rw [if_neg hc2] at h
      refine Go.condF rfl (byF iDec hc2) ?_
      refine Go.skip ?_
      refine Unw.seq ?_
      refine Go.seq ?_
      refine Go.r0 c29 rfl rfl (sq z29 (oMv rfl rfl) <| sq z29 (oBS (es := List.map eI ([first_2] : List Int)) rfl sF26 rfl (ptC rfl (fxI fx0) rfl pt0) (flat0 rfl fun _ => rfl)) <| sq z29 (oAsO rfl rfl rfl rfl rfl) <| nl) ?_
      refine Unw.seq ?_
      refine Go.seq ?_
      refine Go.r0 c29 rfl rfl (sq z29 (oMv rfl rfl) <| sq z29 (oNl rfl rfl rfl) <| sq z29 (oFA (r' := .im 2 _) rfl fF29_0 rfl rfl) <| sq z29 (oLd (cs := [.im 2 _]) rfl tF2 rfl rfl) <| sq z29 (oMv rfl rfl) <| sq z29 (oBi rfl rfl rfl rfl) <| sq z29 (oAsI rfl rfl) <| nl) ?_
      refine Unw.seq ?_
      refine Go.seq ?_
      refine Go.block ?_
      obtain ⟨o, hl, h⟩ := bs h
      refine Go.lp c29 rfl _ (fun (s : (Int × (List Int))) => match s with | (rest_9_l7, out_o8_l7) => mk [(1, .v false [.im 2 (.cp [.sc (.int .i64 k_1.Board), .sc (.int .i64 k_1.Wide), .sc (.int .i64 k_1.Least), .sc (.int .i64 k_1.Stagger)] 0)]), (8, .v false [.own 8 0 0]), (9, iv rest_9_l7)] [(8, some ⟨0, 0, false, false, false, false, [⟨.sh, 0, 0, .row 1 (List.map eI out_o8_l7)⟩]⟩)]) (fun (o : (Int × (List Int))) (p : Ex × St) => match o with | (rest_9_e0_7, out_o8_e0_7) => p.1 = .exit 0 ∧ p.2.norm ([1, 8, 9], [8]) = mk [(1, .v false [.im 2 (.cp [.sc (.int .i64 k_1.Board), .sc (.int .i64 k_1.Wide), .sc (.int .i64 k_1.Least), .sc (.int .i64 k_1.Stagger)] 0)]), (8, .v false [.own 8 0 0]), (9, iv rest_9_e0_7)] [(8, some ⟨0, 0, false, false, false, false, [⟨.sh, 0, 0, .row 1 (List.map eI out_o8_e0_7)⟩]⟩)]) hl (by kernel_rfl) ?_ ?_ ?_
      · intro o p hp e
        obtain ⟨rest_9_e0_7, out_o8_e0_7⟩ := o
        exact nomatch (hp.1.symm.trans e)
      · rintro ⟨rest_9_l7, out_o8_l7⟩ o h
        unfold spec_l30Pieces_l7 at h
        dsimp only at h
        refine Go.seq ?_
        refine Go.seq ?_
        refine Go.r0 c29 rfl rfl (sq z29 (oMv rfl rfl) <| sq z29 (oMv rfl rfl) <| sq z29 (oNl rfl rfl rfl) <| sq z29 (oFA (r' := .im 2 _) rfl fF31_0 rfl rfl) <| sq z29 (oLd (cs := [.im 2 _]) rfl tF2 rfl rfl) <| sq z29 (oBi rfl rfl rfl rfl) <| nl) ?_
        refine Unw.seq ?_
        by_cases hc6 : rest_9_l7 > k_1.Board
        · rw [if_pos hc6] at h
          refine Go.condT rfl (iDec.2 hc6) ?_
          refine Go.skip ?_
          refine Unw.seq ?_
          refine Go.block ?_
          refine Go.seq ?_
          obtain ⟨x52, hx52, h⟩ := bs h
          refine Go.r0 c29 rfl rfl (sq z29 (oMv rfl rfl) <| sq z29 (oMv rfl rfl) <| sq z29 (oNl rfl rfl rfl) <| sq z29 (oFA (r' := .im 2 _) rfl fF31_0 rfl rfl) <| sq z29 (oLd (cs := [.im 2 _]) rfl tF2 rfl rfl) <| sq z29 (oBS (es := List.map eI ([k_1.Board] : List Int)) rfl sF26 rfl (ptC rfl (fxI fx0) rfl pt0) (flat0 rfl fun _ => rfl)) <| sq z29 (oApO (en := eI) (M := ([k_1.Board] : List Int)) rfl hx52 rfl sF26 rfl rfl uF26 (.inl ⟨_, rfl⟩) rfl rfl rfl rfl (el_own rfl rfl) (flat0 rfl fun _ => rfl)) <| sq z29 (oAsO rfl rfl rfl rfl rfl) <| nl) ?_
          refine Unw.seq ?_
          refine Go.r0 c29 rfl rfl (sq z29 (oMv rfl rfl) <| sq z29 (oMv rfl rfl) <| sq z29 (oNl rfl rfl rfl) <| sq z29 (oFA (r' := .im 2 _) rfl fF31_0 rfl rfl) <| sq z29 (oLd (cs := [.im 2 _]) rfl tF2 rfl rfl) <| sq z29 (oBi rfl rfl rfl rfl) <| sq z29 (oAsI rfl rfl) <| nl) ?_
          refine Unw.blk ?_
          refine Unw.nil ?_
          cases h
          exact ⟨rfl, (by kernel_rfl)⟩
        · rw [if_neg hc6] at h
          refine Go.condF rfl (byF iDec hc6) ?_
          refine Go.exit ?_
          refine Unw.seqx ?_
          refine Unw.nil ?_
          cases h
          exact ⟨rfl, (by kernel_rfl)⟩
      · rintro ⟨e, st⟩ hp
        obtain ⟨rest_9_e0_7, out_o8_e0_7⟩ := o
        dsimp only at h
        obtain ⟨he, hst⟩ := hp
        obtain rfl : e = .exit 0 := he
        refine Unw.blkx ?_
        refine Unw.seq ?_
        refine Go.seq ?_
        refine Go.seq ?_
        refine Go.r1 c29 rfl rfl hst (sq z29 (oMv rfl rfl) <| sq z29 (oMv rfl rfl) <| sq z29 (oNl rfl rfl rfl) <| sq z29 (oFA (r' := .im 2 _) rfl fF31_2 rfl rfl) <| sq z29 (oLd (cs := [.im 2 _]) rfl tF2 rfl rfl) <| sq z29 (oBi rfl rfl rfl rfl) <| nl) ?_
        refine Unw.seq ?_
        by_cases hc5 : rest_9_e0_7 < k_1.Least
        · rw [if_pos hc5] at h
          refine Go.condT rfl (iDec.2 hc5) ?_
          refine Go.seq ?_
          refine Go.r0 c29 rfl rfl (sq z29 (oAsN rfl rfl eF26) <| sq z29 (oAsI rfl rfl) <| nl) ?_
          refine Unw.seq ?_
          refine Go.ret (Unw.ret ?_)
          cases h
          exact Fin_ret (fin_of rfl rF29 rfl (by kernel_rfl))
        · rw [if_neg hc5] at h
          refine Go.condF rfl (byF iDec hc5) ?_
          refine Go.skip ?_
          refine Unw.seq ?_
          refine Go.seq ?_
          obtain ⟨x68, hx68, h⟩ := bs h
          refine Go.r0 c29 rfl rfl (sq z29 (oMv rfl rfl) <| sq z29 (oMv rfl rfl) <| sq z29 (oBS (es := List.map eI ([rest_9_e0_7] : List Int)) rfl sF26 rfl (ptC rfl (fxI fx0) rfl pt0) (flat0 rfl fun _ => rfl)) <| sq z29 (oApO (en := eI) (M := ([rest_9_e0_7] : List Int)) rfl hx68 rfl sF26 rfl rfl uF26 (.inl ⟨_, rfl⟩) rfl rfl rfl rfl (el_own rfl rfl) (flat0 rfl fun _ => rfl)) <| sq z29 (oAsO rfl rfl rfl rfl rfl) <| sq z29 (oAsI rfl rfl) <| nl) ?_
          refine Unw.seq ?_
          refine Go.ret (Unw.ret ?_)
          cases h
          exact Fin_ret (fin_of rfl rF29 rfl (by kernel_rfl))
  · rw [if_neg hc1] at h
    refine Go.condT rfl (nT (byF Iff.rfl hc1)) ?_
    refine Go.seq ?_
    refine Go.r0 c29 rfl rfl (sq z29 (oAsN rfl rfl eF26) <| sq z29 (oAsI rfl rfl) <| nl) ?_
    refine Unw.seq ?_
    refine Go.ret (Unw.ret ?_)
    cases h
    exact Fin_ret (fin_of rfl rF29 rfl (by kernel_rfl))
theorem L_spec_l30Joints {pieces_0 : (List Int)} {r : (List Int)} (h : spec_l30Joints pieces_0 = some r) : FL Try.prog cfg 48 [.im 2 false [.row 1 (List.map eI pieces_0)]] = some ([(false, [.ow 0 1 (List.map eI r)])], []) := by
  unfold spec_l30Joints at h
  refine FL_goS (A := [(0, .v false [.im 2 (.row 1 (List.map eI pieces_0))])]) (B := [(0, none)]) (nt := 25) rfl rfl Try.func48 rfl rfl rfl rfl ?_
  refine Go.seq ?_
  refine Go.r0 c48 rfl rfl (sq z48 (oAsN rfl rfl eF26) <| nl) ?_
  refine Unw.seq ?_
  refine Go.seq ?_
  refine Go.r0 c48 rfl rfl (sq z48 (oBS (es := List.map eI ([] : List Int)) rfl sF26 rfl pt0 (flat0 rfl fun _ => rfl)) <| sq z48 (oAsO rfl rfl rfl rfl rfl) <| nl) ?_
  refine Unw.seq ?_
  refine Go.seq ?_
  refine Go.r0 c48 rfl rfl (sq z48 (oAsI rfl rfl) <| nl) ?_
  refine Unw.seq ?_
  refine Go.seq ?_
  refine Go.seq ?_
  refine Go.r0 c48 rfl rfl (sq z48 (oAsI rfl rfl) <| nl) ?_
  refine Unw.seq ?_
  refine Go.block ?_
  obtain ⟨o, hl, h⟩ := bs h
  refine Go.lp c48 rfl _ (fun (s : (Int × Int × (List Int))) => match s with | (at_4_l4, i_5_l4, out_o3_l4) => mk [(0, .v false [.im 2 (.row 1 (List.map eI pieces_0))]), (3, .v false [.own 3 0 0]), (4, iv at_4_l4), (5, iv i_5_l4)] [(3, some ⟨0, 0, false, false, false, false, [⟨.sh, 0, 0, .row 1 (List.map eI out_o3_l4)⟩]⟩)]) (fun (out_o3_e0_4 : (List Int)) (p : Ex × St) => p.1 = .exit 0 ∧ p.2.norm ([3], [3]) = mk [(3, .v false [.own 3 0 0])] [(3, some ⟨0, 0, false, false, false, false, [⟨.sh, 0, 0, .row 1 (List.map eI out_o3_e0_4)⟩]⟩)]) hl (by kernel_rfl) ?_ ?_ ?_
  · intro o p hp e
    exact nomatch (hp.1.symm.trans e)
  · rintro ⟨at_4_l4, i_5_l4, out_o3_l4⟩ o h
    unfold spec_l30Joints_l4 at h
    dsimp only at h
    refine Go.seq ?_
    refine Go.seq ?_
    refine Go.r0 c48 rfl rfl (sq z48 (oMv rfl rfl) <| sq z48 (oBi rfl rfl rfl rfl) <| sq z48 (oMv rfl rfl) <| sq z48 (oLnI rfl rfl uF26 rfl) <| sq z48 (oBi rfl rfl rfl rfl) <| nl) ?_
    refine Unw.seq ?_
    by_cases hc3 : (w64 (i_5_l4 + 1)) < (pieces_0.length : Int)
    · rw [if_pos hc3] at h
      refine Go.condT rfl (iDec.2 hc3) ?_
      refine Go.skip ?_
      refine Unw.seq ?_
      refine Go.seq ?_
      refine Go.block ?_
      refine Go.seq ?_
      obtain ⟨x17, hx17, h⟩ := bs h
      refine Go.r0 c48 rfl rfl (sq z48 (oMv rfl rfl) <| sq z48 (oMv rfl rfl) <| sq z48 (oMv rfl rfl) <| sq z48 (oIAI rfl hx17 sF26 rfl rfl) <| sq z48 (oLd (cs := [.im 2 _]) rfl tF2 rfl rfl) <| sq z48 (oBi rfl rfl rfl rfl) <| sq z48 (oAsI rfl rfl) <| nl) ?_
      refine Unw.seq ?_
      obtain ⟨x23, hx23, h⟩ := bs h
      refine Go.r0 c48 rfl rfl (sq z48 (oMv rfl rfl) <| sq z48 (oMv rfl rfl) <| sq z48 (oBS (es := List.map eI ([(w64 (at_4_l4 + x17))] : List Int)) rfl sF26 rfl (ptC rfl (fxI fx0) rfl pt0) (flat0 rfl fun _ => rfl)) <| sq z48 (oApO (en := eI) (M := ([(w64 (at_4_l4 + x17))] : List Int)) rfl hx23 rfl sF26 rfl rfl uF26 (.inl ⟨_, rfl⟩) rfl rfl rfl rfl (el_own rfl rfl) (flat0 rfl fun _ => rfl)) <| sq z48 (oAsO rfl rfl rfl rfl rfl) <| nl) ?_
      refine Unw.blk ?_
      refine Unw.seq ?_
      refine Go.r0 c48 rfl rfl (sq z48 (oMv rfl rfl) <| sq z48 (oBi rfl rfl rfl rfl) <| sq z48 (oAsI rfl rfl) <| nl) ?_
      refine Unw.nil ?_
      cases h
      exact ⟨rfl, (by kernel_rfl)⟩
    · rw [if_neg hc3] at h
      refine Go.condF rfl (byF iDec hc3) ?_
      refine Go.exit ?_
      refine Unw.seqx ?_
      refine Unw.nil ?_
      cases h
      exact ⟨rfl, (by kernel_rfl)⟩
  · rintro ⟨e, st⟩ hp
    obtain ⟨out_o3_e0_4, rfl⟩ : ∃ y, y = o := ⟨o, rfl⟩
    obtain ⟨he, hst⟩ := hp
    obtain rfl : e = .exit 0 := he
    refine Unw.blkx ?_
    refine Unw.seq ?_
    refine Go.seq ?_
    refine Go.r1 c48 rfl rfl hst (sq z48 (oMv rfl rfl) <| sq z48 (oAsO rfl rfl rfl rfl rfl) <| nl) ?_
    refine Unw.seq ?_
    refine Go.ret (Unw.ret ?_)
    cases h
    exact Fin_ret (fin_of rfl rF48 rfl (by kernel_rfl))
theorem L_spec_l00Max {a_0 : Int} {b_1 : Int} {r : Int} (h : spec_l00Max a_0 b_1 = some r) : FL Try.prog cfg 49 [.im 2 false [.sc (.int .i64 a_0)], .im 2 false [.sc (.int .i64 b_1)]] = some ([(false, [.im 0 (.sc (.int .i64 r))])], []) := by
  unfold spec_l00Max at h
  refine FL_goS (A := [(0, .v false [.im 2 (.sc (.int .i64 a_0))]), (1, .v false [.im 2 (.sc (.int .i64 b_1))])]) (B := [(0, none), (1, none)]) (nt := 10) rfl rfl Try.func49 rfl rfl rfl rfl ?_
  refine Go.seq ?_
  refine Go.r0 c49 rfl rfl (sq z49 (oAsI rfl rfl) <| nl) ?_
  refine Unw.seq ?_
  refine Go.seq ?_
  refine Go.seq ?_
  refine Go.r0 c49 rfl rfl (sq z49 (oMv rfl rfl) <| sq z49 (oMv rfl rfl) <| sq z49 (oBi rfl rfl rfl rfl) <| nl) ?_
  refine Unw.seq ?_
  by_cases hc1 : a_0 > b_1
  · rw [if_pos hc1] at h
    refine Go.condT rfl (iDec.2 hc1) ?_
    refine Go.seq ?_
    refine Go.r0 c49 rfl rfl (sq z49 (oMv rfl rfl) <| sq z49 (oAsI rfl rfl) <| nl) ?_
    refine Unw.seq ?_
    refine Go.ret (Unw.ret ?_)
    cases h
    exact Fin_ret (fin_of rfl rF49 rfl (by kernel_rfl))
  · rw [if_neg hc1] at h
    refine Go.condF rfl (byF iDec hc1) ?_
    refine Go.skip ?_
    refine Unw.seq ?_
    refine Go.seq ?_
    refine Go.r0 c49 rfl rfl (sq z49 (oMv rfl rfl) <| sq z49 (oAsI rfl rfl) <| nl) ?_
    refine Unw.seq ?_
    refine Go.ret (Unw.ret ?_)
    cases h
    exact Fin_ret (fin_of rfl rF49 rfl (by kernel_rfl))
theorem L_spec_l30Apart {k_0 : S_Stock} {a_1 : (List Int)} {b_2 : (List Int)} {r : Bool} (h : spec_l30Apart k_0 a_1 b_2 = some r) : FL Try.prog cfg 30 [.im 2 false [.cp [.sc (.int .i64 k_0.Board), .sc (.int .i64 k_0.Wide), .sc (.int .i64 k_0.Least), .sc (.int .i64 k_0.Stagger)] 0], .im 2 false [.row 1 (List.map eI a_1)], .im 2 false [.row 1 (List.map eI b_2)]] = some ([(false, [.im 0 (.sc (.bool r))])], []) := by
  unfold spec_l30Apart at h
  refine FL_goS (A := [(0, .v false [.im 2 (.cp [.sc (.int .i64 k_0.Board), .sc (.int .i64 k_0.Wide), .sc (.int .i64 k_0.Least), .sc (.int .i64 k_0.Stagger)] 0)]), (1, .v false [.im 2 (.row 1 (List.map eI a_1))]), (2, .v false [.im 2 (.row 1 (List.map eI b_2))])]) (B := [(0, none), (1, none), (2, none)]) (nt := 62) rfl rfl Try.func30 rfl rfl rfl rfl ?_
  refine Go.seq ?_
  refine Go.r0 c30 rfl rfl (sq z30 (oAsI rfl rfl) <| nl) ?_
  refine Unw.seq ?_
  refine Go.seq ?_
  obtain ⟨x12, hx12, h⟩ := bs h
  refine Go.r0 c30 rfl rfl (sq z30 (oMv rfl rfl) <| sq z30 (oCr (xs := [.v false [.im 2 _]]) (vs := [(false, [.own 12 0 0])]) (v := .v false [.own 12 0 0]) (c := ⟨.sh, 0, _⟩) (cs := []) (L_spec_l30Joints hx12) rfl rfl kF48_26 rfl (ppC rfl pp0) rfl rfl pb0 rfl rfl rfl) <| sq z30 (oAsO rfl rfl rfl rfl rfl) <| nl) ?_
  refine Unw.seq ?_
  refine Go.seq ?_
  obtain ⟨x14, hx14, h⟩ := bs h
  refine Go.r0 c30 rfl rfl (sq z30 (oMv rfl rfl) <| sq z30 (oCr (xs := [.v false [.im 2 _]]) (vs := [(false, [.own 14 0 0])]) (v := .v false [.own 14 0 0]) (c := ⟨.sh, 0, _⟩) (cs := []) (L_spec_l30Joints hx14) rfl rfl kF48_26 rfl (ppC rfl pp0) rfl rfl pb0 rfl rfl rfl) <| sq z30 (oAsO rfl rfl rfl rfl rfl) <| nl) ?_
  refine Unw.seq ?_
  refine Go.seq ?_
  refine Go.r0 c30 rfl rfl (sq z30 (oAsI rfl rfl) <| nl) ?_
  refine Unw.seq ?_
  refine Go.seq ?_
  refine Go.r0 c30 rfl rfl (sq z30 (oAsI rfl rfl) <| nl) ?_
  refine Unw.seq ?_
  refine Go.seq ?_
  refine Go.block ?_
  obtain ⟨o, hl, h⟩ := bs h
  refine Go.lp c30 rfl _ (fun (s : (Int × Int)) => match s with | (i_9_l5, j_10_l5) => mk [(0, .v false [.im 2 (.cp [.sc (.int .i64 k_0.Board), .sc (.int .i64 k_0.Wide), .sc (.int .i64 k_0.Least), .sc (.int .i64 k_0.Stagger)] 0)]), (7, .v false [.own 7 0 0]), (8, .v false [.own 8 0 0]), (9, iv i_9_l5), (10, iv j_10_l5)] [(7, some ⟨0, 0, false, false, false, false, [⟨.sh, 0, 0, .row 1 (List.map eI x12)⟩]⟩), (8, some ⟨0, 0, false, false, false, false, [⟨.sh, 0, 0, .row 1 (List.map eI x14)⟩]⟩)]) (fun (o : (Unit ⊕ Bool)) (p : Ex × St) => match o with | (.inl _) => p.1 = .exit 0 ∧ p.2.norm ([], []) = mk [] [] | (.inr r2) => p.1 = .ret ∧ fin Try.prog cfg 30 Try.f30 [.im 2 false [.cp [.sc (.int .i64 k_0.Board), .sc (.int .i64 k_0.Wide), .sc (.int .i64 k_0.Least), .sc (.int .i64 k_0.Stagger)] 0], .im 2 false [.row 1 (List.map eI a_1)], .im 2 false [.row 1 (List.map eI b_2)]] p.2 = some ([(false, [.im 0 (.sc (.bool r2))])], [])) hl (by kernel_rfl) ?_ ?_ ?_
  · intro o p hp e
    rcases o with u | r2 <;> exact nomatch (hp.1.symm.trans e)
  · rintro ⟨i_9_l5, j_10_l5⟩ o h
    unfold spec_l30Apart_l5 at h
    dsimp only at h
    refine Go.seq ?_
    refine Go.seq ?_
    refine Go.rX c30 rfl rfl rfl (mk [(0, .v false [.im 2 (.cp [.sc (.int .i64 k_0.Board), .sc (.int .i64 k_0.Wide), .sc (.int .i64 k_0.Least), .sc (.int .i64 k_0.Stagger)] 0)]), (7, .v false [.own 7 0 0]), (8, .v false [.own 8 0 0]), (9, iv i_9_l5), (10, iv j_10_l5), (24, bv ((decide (i_9_l5 < (x12.length : Int))) && (decide (j_10_l5 < (x14.length : Int)))))] [(7, some ⟨0, 0, false, false, false, false, [⟨.sh, 0, 0, .row 1 (List.map eI x12)⟩]⟩), (8, some ⟨0, 0, false, false, false, false, [⟨.sh, 0, 0, .row 1 (List.map eI x14)⟩]⟩)]) ?_ ?_
    · by_cases hc9 : i_9_l5 < (x12.length : Int)
      · exact ⟨_, sq z30 (oMv rfl rfl) <| sq z30 (oMv rfl rfl) <| sq z30 (oLnO rfl rfl uF26 rfl rfl rfl (fun e => nomatch e)) <| sq z30 (oBi rfl rfl rfl rfl) <| sq z30 (oMv rfl rfl) <| sgT z30 rfl rfl (iDec.2 hc9) (oMv rfl rfl) <| sgT z30 rfl rfl (iDec.2 hc9) (oMv rfl rfl) <| sgT z30 rfl rfl (iDec.2 hc9) (oLnO rfl rfl uF26 rfl rfl rfl (fun e => nomatch e)) <| sgT z30 rfl rfl (iDec.2 hc9) (oBi rfl rfl rfl rfl) <| sq z30 (oPkT rfl rfl (iDec.2 hc9) rfl) <| nl, (Eq.trans (b := (fun t_24_m5 : Bool => mk [(0, .v false [.im 2 (.cp [.sc (.int .i64 k_0.Board), .sc (.int .i64 k_0.Wide), .sc (.int .i64 k_0.Least), .sc (.int .i64 k_0.Stagger)] 0)]), (7, .v false [.own 7 0 0]), (8, .v false [.own 8 0 0]), (9, iv i_9_l5), (10, iv j_10_l5), (24, bv t_24_m5)] [(7, some ⟨0, 0, false, false, false, false, [⟨.sh, 0, 0, .row 1 (List.map eI x12)⟩]⟩), (8, some ⟨0, 0, false, false, false, false, [⟨.sh, 0, 0, .row 1 (List.map eI x14)⟩]⟩)]) (decide (j_10_l5 < (x14.length : Int)))) (by kernel_rfl) (congrArg (fun t_24_m5 : Bool => mk [(0, .v false [.im 2 (.cp [.sc (.int .i64 k_0.Board), .sc (.int .i64 k_0.Wide), .sc (.int .i64 k_0.Least), .sc (.int .i64 k_0.Stagger)] 0)]), (7, .v false [.own 7 0 0]), (8, .v false [.own 8 0 0]), (9, iv i_9_l5), (10, iv j_10_l5), (24, bv t_24_m5)] [(7, some ⟨0, 0, false, false, false, false, [⟨.sh, 0, 0, .row 1 (List.map eI x12)⟩]⟩), (8, some ⟨0, 0, false, false, false, false, [⟨.sh, 0, 0, .row 1 (List.map eI x14)⟩]⟩)]) (by first | rfl | simp [(iDec.2 hc9)])))⟩
      · exact ⟨_, sq z30 (oMv rfl rfl) <| sq z30 (oMv rfl rfl) <| sq z30 (oLnO rfl rfl uF26 rfl rfl rfl (fun e => nomatch e)) <| sq z30 (oBi rfl rfl rfl rfl) <| sq z30 (oMv rfl rfl) <| sgF rfl rfl (byF iDec hc9) rfl <| sgF rfl rfl (byF iDec hc9) rfl <| sgF rfl rfl (byF iDec hc9) rfl <| sgF rfl rfl (byF iDec hc9) rfl <| sq z30 (oPkF rfl rfl (byF iDec hc9) rfl) <| nl, (Eq.trans (b := (fun t_24_m5 : Bool => mk [(0, .v false [.im 2 (.cp [.sc (.int .i64 k_0.Board), .sc (.int .i64 k_0.Wide), .sc (.int .i64 k_0.Least), .sc (.int .i64 k_0.Stagger)] 0)]), (7, .v false [.own 7 0 0]), (8, .v false [.own 8 0 0]), (9, iv i_9_l5), (10, iv j_10_l5), (24, bv t_24_m5)] [(7, some ⟨0, 0, false, false, false, false, [⟨.sh, 0, 0, .row 1 (List.map eI x12)⟩]⟩), (8, some ⟨0, 0, false, false, false, false, [⟨.sh, 0, 0, .row 1 (List.map eI x14)⟩]⟩)]) false) (by kernel_rfl) (congrArg (fun t_24_m5 : Bool => mk [(0, .v false [.im 2 (.cp [.sc (.int .i64 k_0.Board), .sc (.int .i64 k_0.Wide), .sc (.int .i64 k_0.Least), .sc (.int .i64 k_0.Stagger)] 0)]), (7, .v false [.own 7 0 0]), (8, .v false [.own 8 0 0]), (9, iv i_9_l5), (10, iv j_10_l5), (24, bv t_24_m5)] [(7, some ⟨0, 0, false, false, false, false, [⟨.sh, 0, 0, .row 1 (List.map eI x12)⟩]⟩), (8, some ⟨0, 0, false, false, false, false, [⟨.sh, 0, 0, .row 1 (List.map eI x14)⟩]⟩)]) (by first | rfl | simp [(byF iDec hc9)])))⟩
    · refine Unw.seq ?_
      by_cases hc10 : (i_9_l5 < (x12.length : Int) ∧ j_10_l5 < (x14.length : Int))
      · rw [if_pos hc10] at h
        refine Go.condT rfl ((iAnd iDec iDec).2 hc10) ?_
        refine Go.skip ?_
        refine Unw.seq ?_
        refine Go.block ?_
        refine Go.seq ?_
        refine Go.seq ?_
        obtain ⟨x27, hx27, h⟩ := bs h
        obtain ⟨x31, hx31, h⟩ := bs h
        obtain ⟨x36, hx36, h⟩ := bs h
        obtain ⟨x40, hx40, h⟩ := bs h
        obtain ⟨x43, hx43, h⟩ := bs h
        refine Go.dr c30 rfl rfl rfl rfl (mk [(0, .v false [.im 2 (.cp [.sc (.int .i64 k_0.Board), .sc (.int .i64 k_0.Wide), .sc (.int .i64 k_0.Least), .sc (.int .i64 k_0.Stagger)] 0)]), (7, .v false [.own 7 0 0]), (8, .v false [.own 8 0 0]), (9, iv i_9_l5), (10, iv j_10_l5), (48, bv (decide (x43 < k_0.Stagger)))] [(7, some ⟨0, 0, false, false, false, false, [⟨.sh, 0, 0, .row 1 (List.map eI x12)⟩]⟩), (8, some ⟨0, 0, false, false, false, false, [⟨.sh, 0, 0, .row 1 (List.map eI x14)⟩]⟩)]) (sT rfl (dN z30 rfl (oMv rfl rfl)) <| sT rfl (dN z30 rfl (oMv rfl rfl)) <| sT rfl (dN z30 rfl (oIAO rfl hx27 sF26 rfl rfl rfl rfl)) <| sT rfl (dN z30 rfl (oLdE (cs := [.im 0 _]) rfl tF2 rfl rfl rfl (fun e => nomatch e) (rd_get hx27) rfl rfl)) <| sT rfl (dN z30 rfl (oMv rfl rfl)) <| sT rfl (dN z30 rfl (oMv rfl rfl)) <| sT rfl (dN z30 rfl (oIAO rfl hx31 sF26 rfl rfl rfl rfl)) <| sT rfl (dN z30 rfl (oLdE (cs := [.im 0 _]) rfl tF2 rfl rfl rfl (fun e => nomatch e) (rd_get hx31) rfl rfl)) <| sT rfl (dN z30 rfl (oBi rfl rfl rfl rfl)) <| sT rfl (dN z30 rfl (oMv rfl rfl)) <| sT rfl (dN z30 rfl (oMv rfl rfl)) <| sT rfl (dN z30 rfl (oIAO rfl hx36 sF26 rfl rfl rfl rfl)) <| sT rfl (dN z30 rfl (oLdE (cs := [.im 0 _]) rfl tF2 rfl rfl rfl (fun e => nomatch e) (rd_get hx36) rfl rfl)) <| sT rfl (dN z30 rfl (oMv rfl rfl)) <| sT rfl (dN z30 rfl (oMv rfl rfl)) <| sT rfl (dN z30 rfl (oIAO rfl hx40 sF26 rfl rfl rfl rfl)) <| sT rfl (dN z30 rfl (oLdE (cs := [.im 0 _]) rfl tF2 rfl rfl rfl (fun e => nomatch e) (rd_get hx40) rfl rfl)) <| sT rfl (dN z30 rfl (oBi rfl rfl rfl rfl)) <| sT rfl (dN z30 rfl (oMv rfl rfl)) <| sT rfl (dN z30 rfl (oNl rfl rfl rfl)) <| sT rfl (dN z30 rfl (oFA (r' := .im 2 _) rfl fF31_3 rfl rfl)) <| sT rfl (dN z30 rfl (oLd (cs := [.im 2 _]) rfl tF2 rfl rfl)) <| sS (dN z30 rfl (oCa (xs := [.v false [.im 0 _], .v false [.im 0 _]]) (vs := [(false, [.im 0 _])]) (v := .v false [.im 0 _]) (L_spec_l00Max hx43) rfl rfl kF49_2_2 rfl (ppC rfl (ppC rfl pp0)) rfl rfl pb0 rfl rfl rfl)) (sT rfl (dN z30 rfl (oBi rfl rfl rfl rfl)) <| sD (by kernel_rfl))) ?_
        refine Unw.seq ?_
        by_cases hc11 : x43 < k_0.Stagger
        · rw [if_pos hc11] at h
          refine Go.condT rfl (iDec.2 hc11) ?_
          refine Go.seq ?_
          refine Go.r0 c30 rfl rfl (sq z30 (oAsI rfl rfl) <| nl) ?_
          refine Unw.seq ?_
          refine Go.ret (Unw.ret ?_)
          cases h
          exact ⟨rfl, (fin_of rfl rF30 rfl (by kernel_rfl))⟩
        · rw [if_neg hc11] at h
          refine Go.condF rfl (byF iDec hc11) ?_
          refine Go.skip ?_
          refine Unw.seq ?_
          refine Go.seq ?_
          obtain ⟨x51, hx51, h⟩ := bs h
          obtain ⟨x55, hx55, h⟩ := bs h
          refine Go.dr c30 rfl rfl rfl rfl (mk [(0, .v false [.im 2 (.cp [.sc (.int .i64 k_0.Board), .sc (.int .i64 k_0.Wide), .sc (.int .i64 k_0.Least), .sc (.int .i64 k_0.Stagger)] 0)]), (7, .v false [.own 7 0 0]), (8, .v false [.own 8 0 0]), (9, iv i_9_l5), (10, iv j_10_l5), (57, bv (decide (x51 < x55)))] [(7, some ⟨0, 0, false, false, false, false, [⟨.sh, 0, 0, .row 1 (List.map eI x12)⟩]⟩), (8, some ⟨0, 0, false, false, false, false, [⟨.sh, 0, 0, .row 1 (List.map eI x14)⟩]⟩)]) (sT rfl (dN z30 rfl (oMv rfl rfl)) <| sT rfl (dN z30 rfl (oMv rfl rfl)) <| sT rfl (dN z30 rfl (oIAO rfl hx51 sF26 rfl rfl rfl rfl)) <| sT rfl (dN z30 rfl (oLdE (cs := [.im 0 _]) rfl tF2 rfl rfl rfl (fun e => nomatch e) (rd_get hx51) rfl rfl)) <| sT rfl (dN z30 rfl (oMv rfl rfl)) <| sT rfl (dN z30 rfl (oMv rfl rfl)) <| sT rfl (dN z30 rfl (oIAO rfl hx55 sF26 rfl rfl rfl rfl)) <| sT rfl (dN z30 rfl (oLdE (cs := [.im 0 _]) rfl tF2 rfl rfl rfl (fun e => nomatch e) (rd_get hx55) rfl rfl)) <| sT rfl (dN z30 rfl (oBi rfl rfl rfl rfl)) <| sD (by kernel_rfl)) ?_
          refine Unw.seq ?_
          by_cases hc12 : x51 < x55
          · rw [if_pos hc12] at h
            refine Go.condT rfl (iDec.2 hc12) ?_
            refine Go.r0 c30 rfl rfl (sq z30 (oMv rfl rfl) <| sq z30 (oBi rfl rfl rfl rfl) <| sq z30 (oAsI rfl rfl) <| nl) ?_
            refine Unw.blk ?_
            refine Unw.nil ?_
            cases h
            exact ⟨rfl, (by kernel_rfl)⟩
          · rw [if_neg hc12] at h
            refine Go.condF rfl (byF iDec hc12) ?_
            refine Go.r0 c30 rfl rfl (sq z30 (oMv rfl rfl) <| sq z30 (oBi rfl rfl rfl rfl) <| sq z30 (oAsI rfl rfl) <| nl) ?_
            refine Unw.blk ?_
            refine Unw.nil ?_
            cases h
            exact ⟨rfl, (by kernel_rfl)⟩
      · rw [if_neg hc10] at h
        refine Go.condF rfl (byF (iAnd iDec iDec) hc10) ?_
        refine Go.exit ?_
        refine Unw.seqx ?_
        refine Unw.nil ?_
        cases h
        exact ⟨rfl, (by kernel_rfl)⟩
  · rintro ⟨e, st⟩ hp
    rcases o with u | r2
    · dsimp only at h
      obtain ⟨he, hst⟩ := hp
      obtain rfl : e = .exit 0 := he
      refine Unw.blkx ?_
      refine Unw.seq ?_
      refine Go.seq ?_
      refine Go.r1 c30 rfl rfl hst (sq z30 (oAsI rfl rfl) <| nl) ?_
      refine Unw.seq ?_
      refine Go.ret (Unw.ret ?_)
      cases h
      exact Fin_ret (fin_of rfl rF30 rfl (by kernel_rfl))
    · dsimp only at h
      obtain ⟨he, hfin⟩ := hp
      obtain rfl : e = .ret := he
      cases h
      exact Unw.ret (Fin_ret hfin)
theorem L_spec_l30Left {k_0 : S_Stock} {pieces_1 : (List Int)} {r : Int} (h : spec_l30Left k_0 pieces_1 = some r) : FL Try.prog cfg 28 [.im 2 false [.cp [.sc (.int .i64 k_0.Board), .sc (.int .i64 k_0.Wide), .sc (.int .i64 k_0.Least), .sc (.int .i64 k_0.Stagger)] 0], .im 2 false [.row 1 (List.map eI pieces_1)]] = some ([(false, [.im 0 (.sc (.int .i64 r))])], []) := by
  unfold spec_l30Left at h
  refine FL_goS (A := [(0, .v false [.im 2 (.cp [.sc (.int .i64 k_0.Board), .sc (.int .i64 k_0.Wide), .sc (.int .i64 k_0.Least), .sc (.int .i64 k_0.Stagger)] 0)]), (1, .v false [.im 2 (.row 1 (List.map eI pieces_1))])]) (B := [(0, none), (1, none)]) (nt := 19) rfl rfl Try.func28 rfl rfl rfl rfl ?_
  refine Go.seq ?_
  refine Go.r0 c28 rfl rfl (sq z28 (oAsI rfl rfl) <| nl) ?_
  refine Unw.seq ?_
  refine Go.seq ?_
  refine Go.seq ?_
  refine Go.r0 c28 rfl rfl (sq z28 (oMv rfl rfl) <| sq z28 (oLnI rfl rfl uF26 rfl) <| sq z28 (oBi rfl rfl rfl rfl) <| nl) ?_
  refine Unw.seq ?_
  by_cases hc1 : (pieces_1.length : Int) < 2
  · rw [if_pos hc1] at h
    refine Go.condT rfl (iDec.2 hc1) ?_
    refine Go.seq ?_
    refine Go.r0 c28 rfl rfl (sq z28 (oAsI rfl rfl) <| nl) ?_
    refine Unw.seq ?_
    refine Go.ret (Unw.ret ?_)
    cases h
    exact Fin_ret (fin_of rfl rF28 rfl (by kernel_rfl))
  · rw [if_neg hc1] at h
    refine Go.condF rfl (byF iDec hc1) ?_
    refine Go.skip ?_
    refine Unw.seq ?_
    refine Go.seq ?_
    obtain ⟨x16, hx16, h⟩ := bs h
    refine Go.dr c28 rfl rfl rfl rfl (mk [(4, iv (w64 (k_0.Board - x16)))] []) (sT rfl (dN z28 rfl (oMv rfl rfl)) <| sT rfl (dN z28 rfl (oNl rfl rfl rfl)) <| sT rfl (dN z28 rfl (oFA (r' := .im 2 _) rfl fF31_0 rfl rfl)) <| sT rfl (dN z28 rfl (oLd (cs := [.im 2 _]) rfl tF2 rfl rfl)) <| sT rfl (dN z28 rfl (oMv rfl rfl)) <| sT rfl (dN z28 rfl (oMv rfl rfl)) <| sT rfl (dN z28 rfl (oLnI rfl rfl uF26 rfl)) <| sT rfl (dN z28 rfl (oBi rfl rfl rfl rfl)) <| sT rfl (dN z28 rfl (oIAI rfl hx16 sF26 rfl rfl)) <| sT rfl (dN z28 rfl (oLd (cs := [.im 2 _]) rfl tF2 rfl rfl)) <| sT rfl (dN z28 rfl (oBi rfl rfl rfl rfl)) <| sS (dN z28 rfl (oAsI rfl rfl)) (sD (by kernel_rfl))) ?_
    refine Unw.seq ?_
    refine Go.ret (Unw.ret ?_)
    cases h
    exact Fin_ret (fin_of rfl rF28 rfl (by kernel_rfl))
theorem L_spec_l30Boards {k_0 : S_Stock} {last_1 : (List Int)} {pieces_2 : (List Int)} {r : Int} (h : spec_l30Boards k_0 last_1 pieces_2 = some r) : FL Try.prog cfg 41 [.im 2 false [.cp [.sc (.int .i64 k_0.Board), .sc (.int .i64 k_0.Wide), .sc (.int .i64 k_0.Least), .sc (.int .i64 k_0.Stagger)] 0], .im 2 false [.row 1 (List.map eI last_1)], .im 2 false [.row 1 (List.map eI pieces_2)]] = some ([(false, [.im 0 (.sc (.int .i64 r))])], []) := by
  unfold spec_l30Boards at h
  refine FL_goS (A := [(0, .v false [.im 2 (.cp [.sc (.int .i64 k_0.Board), .sc (.int .i64 k_0.Wide), .sc (.int .i64 k_0.Least), .sc (.int .i64 k_0.Stagger)] 0)]), (1, .v false [.im 2 (.row 1 (List.map eI last_1))]), (2, .v false [.im 2 (.row 1 (List.map eI pieces_2))])]) (B := [(0, none), (1, none), (2, none)]) (nt := 20) rfl rfl Try.func41 rfl rfl rfl rfl ?_
  refine Go.seq ?_
  refine Go.r0 c41 rfl rfl (sq z41 (oAsI rfl rfl) <| nl) ?_
  refine Unw.seq ?_
  refine Go.seq ?_
  refine Go.r0 c41 rfl rfl (sq z41 (oMv rfl rfl) <| sq z41 (oLnI rfl rfl uF26 rfl) <| sq z41 (oAsI rfl rfl) <| nl) ?_
  refine Unw.seq ?_
  refine Go.seq ?_
  refine Go.seq ?_
  obtain ⟨x11, hx11, h⟩ := bs h
  obtain ⟨x15, hx15, h⟩ := bs h
  refine Go.dr c41 rfl rfl rfl rfl (mk [(7, iv (pieces_2.length : Int)), (16, bv (decide (x11 ≤ x15)))] []) (sT rfl (dN z41 rfl (oMv rfl rfl)) <| sT rfl (dN z41 rfl (oIAI rfl hx11 sF26 rfl rfl)) <| sT rfl (dN z41 rfl (oLd (cs := [.im 2 _]) rfl tF2 rfl rfl)) <| sT rfl (dN z41 rfl (oMv rfl rfl)) <| sT rfl (dN z41 rfl (oMv rfl rfl)) <| sS (dN z41 rfl (oCa (xs := [.v false [.im 2 _], .v false [.im 2 _]]) (vs := [(false, [.im 0 _])]) (v := .v false [.im 0 _]) (L_spec_l30Left hx15) rfl rfl kF28_45_26 rfl (ppC rfl (ppC rfl pp0)) rfl rfl pb0 rfl rfl rfl)) (sT rfl (dN z41 rfl (oBi rfl rfl rfl rfl)) <| sD (by kernel_rfl))) ?_
  refine Unw.seq ?_
  refine Go.join (fun st => ∃ n_7_r4, spec_l30Boards_k4 n_7_r4 = some r ∧ st.norm ([7], []) = mk [(7, iv n_7_r4)] []) ?_ ?_
  · rintro st ⟨n_7_r4, h, hst⟩
    unfold spec_l30Boards_k4 at h
    refine Unw.seq ?_
    refine Go.seq ?_
    refine Go.r1 c41 rfl rfl hst (sq z41 (oMv rfl rfl) <| sq z41 (oAsI rfl rfl) <| nl) ?_
    refine Unw.seq ?_
    refine Go.ret (Unw.ret ?_)
    cases h
    exact Fin_ret (fin_of rfl rF41 rfl (by kernel_rfl))
  · intro K2
    by_cases hc3 : x11 ≤ x15
    · rw [if_pos hc3] at h
      refine Go.condT rfl (iDec.2 hc3) ?_
      refine Go.r0 c41 rfl rfl (sq z41 (oMv rfl rfl) <| sq z41 (oBi rfl rfl rfl rfl) <| sq z41 (oAsI rfl rfl) <| nl) ?_
      exact K2 _ ⟨(w64 ((pieces_2.length : Int) - 1)), h, (by kernel_rfl)⟩
    · rw [if_neg hc3] at h
      refine Go.condF rfl (byF iDec hc3) ?_
      refine Go.skip ?_
      exact K2 _ ⟨(pieces_2.length : Int), h, (by kernel_rfl)⟩
theorem L_spec_l30Search_run_F {self : (S_l30Search × (List Int) × Int) → Option S_l30Search} (ih : ∀ {x_0 : S_l30Search} {last_1 : (List Int)} {boards_2 : Int} {r : S_l30Search}, self (x_0, last_1, boards_2) = some r → FL Try.prog cfg 36 [.ptr true [(.imm, .cp [.sc (.int .i64 x_0.r.Width), .sc (.int .i64 x_0.r.Length)] 0), (.imm, .cp [.sc (.int .i64 x_0.k.Board), .sc (.int .i64 x_0.k.Wide), .sc (.int .i64 x_0.k.Least), .sc (.int .i64 x_0.k.Stagger)] 0), (.imm, .sc (.int .i64 x_0.n)), (.imm, .sc (.int .i64 x_0.step)), (.sh, .row 1 (List.map eI x_0.firsts)), (.sh, .row 1 (List.map eI x_0.best)), (.imm, .sc (.int .i64 x_0.least)), (.imm, .sc (.int .i64 x_0.nodes)), (.imm, .sc (.int .i64 x_0.budget)), (.imm, .sc (.bool x_0.full))], .im 2 false [.row 1 (List.map eI last_1)], .im 2 false [.sc (.int .i64 boards_2)]] = some ([], [.ptr true [(.imm, .cp [.sc (.int .i64 r.r.Width), .sc (.int .i64 r.r.Length)] 0), (.imm, .cp [.sc (.int .i64 r.k.Board), .sc (.int .i64 r.k.Wide), .sc (.int .i64 r.k.Least), .sc (.int .i64 r.k.Stagger)] 0), (.imm, .sc (.int .i64 r.n)), (.imm, .sc (.int .i64 r.step)), (.sh, .row 1 (List.map eI r.firsts)), (.sh, .row 1 (List.map eI r.best)), (.imm, .sc (.int .i64 r.least)), (.imm, .sc (.int .i64 r.nodes)), (.imm, .sc (.int .i64 r.budget)), (.imm, .sc (.bool r.full))]])) {x_0 : S_l30Search} {last_1 : (List Int)} {boards_2 : Int} {r : S_l30Search} (h : spec_l30Search_run_F self x_0 last_1 boards_2 = some r) : FL Try.prog cfg 36 [.ptr true [(.imm, .cp [.sc (.int .i64 x_0.r.Width), .sc (.int .i64 x_0.r.Length)] 0), (.imm, .cp [.sc (.int .i64 x_0.k.Board), .sc (.int .i64 x_0.k.Wide), .sc (.int .i64 x_0.k.Least), .sc (.int .i64 x_0.k.Stagger)] 0), (.imm, .sc (.int .i64 x_0.n)), (.imm, .sc (.int .i64 x_0.step)), (.sh, .row 1 (List.map eI x_0.firsts)), (.sh, .row 1 (List.map eI x_0.best)), (.imm, .sc (.int .i64 x_0.least)), (.imm, .sc (.int .i64 x_0.nodes)), (.imm, .sc (.int .i64 x_0.budget)), (.imm, .sc (.bool x_0.full))], .im 2 false [.row 1 (List.map eI last_1)], .im 2 false [.sc (.int .i64 boards_2)]] = some ([], [.ptr true [(.imm, .cp [.sc (.int .i64 r.r.Width), .sc (.int .i64 r.r.Length)] 0), (.imm, .cp [.sc (.int .i64 r.k.Board), .sc (.int .i64 r.k.Wide), .sc (.int .i64 r.k.Least), .sc (.int .i64 r.k.Stagger)] 0), (.imm, .sc (.int .i64 r.n)), (.imm, .sc (.int .i64 r.step)), (.sh, .row 1 (List.map eI r.firsts)), (.sh, .row 1 (List.map eI r.best)), (.imm, .sc (.int .i64 r.least)), (.imm, .sc (.int .i64 r.nodes)), (.imm, .sc (.int .i64 r.budget)), (.imm, .sc (.bool r.full))]]) := by
  unfold spec_l30Search_run_F at h
  refine FL_goS (A := [(0, .v false [.mp 0 0 0]), (1, .v false [.im 2 (.row 1 (List.map eI last_1))]), (2, .v false [.im 2 (.sc (.int .i64 boards_2))])]) (B := [(0, some ⟨0, 0, true, true, false, true, [⟨.imm, 0, 1, .cp [.sc (.int .i64 x_0.r.Width), .sc (.int .i64 x_0.r.Length)] 0⟩, ⟨.imm, 0, 1, .cp [.sc (.int .i64 x_0.k.Board), .sc (.int .i64 x_0.k.Wide), .sc (.int .i64 x_0.k.Least), .sc (.int .i64 x_0.k.Stagger)] 0⟩, ⟨.imm, 0, 0, .sc (.int .i64 x_0.n)⟩, ⟨.imm, 0, 0, .sc (.int .i64 x_0.step)⟩, ⟨.sh, 0, 0, .row 1 (List.map eI x_0.firsts)⟩, ⟨.sh, 0, 0, .row 1 (List.map eI x_0.best)⟩, ⟨.imm, 0, 0, .sc (.int .i64 x_0.least)⟩, ⟨.imm, 0, 0, .sc (.int .i64 x_0.nodes)⟩, ⟨.imm, 0, 0, .sc (.int .i64 x_0.budget)⟩, ⟨.imm, 0, 0, .sc (.bool x_0.full)⟩]⟩), (1, none), (2, none)]) (nt := 152) rfl rfl Try.func36 rfl rfl rfl rfl ?_
  refine Go.seq ?_
  refine Go.r0 c36 rfl rfl (sq z36 (oMv rfl rfl) <| sq z36 (oNl rfl rfl rfl) <| sq z36 (oFA (r' := .mp 0 0 4) rfl fF68_4 rfl rfl) <| sq z36 (oLd (cs := [.own 0 0 4]) rfl tF26 rfl rfl) <| sq z36 (oLnO rfl rfl uF26 rfl rfl rfl (fun e => nomatch e)) <| sq z36 (oAsI rfl rfl) <| nl) ?_
  refine Unw.seq ?_
  refine Go.seq ?_
  refine Go.seq ?_
  refine Go.r0 c36 rfl rfl (sq z36 (oMv rfl rfl) <| sq z36 (oMv rfl rfl) <| sq z36 (oNl rfl rfl rfl) <| sq z36 (oFA (r' := .mp 0 0 2) rfl fF68_2 rfl rfl) <| sq z36 (oLd (cs := [.im 0 _]) rfl tF2 rfl rfl) <| sq z36 (oBi rfl rfl rfl rfl) <| nl) ?_
  refine Unw.seq ?_
  by_cases hc1 : (x_0.firsts.length : Int) = x_0.n
  · rw [if_pos hc1] at h
    refine Go.condT rfl (iEq.2 hc1) ?_
    refine Go.seq ?_
    refine Go.r0 c36 rfl rfl (sq z36 (oMv rfl rfl) <| sq z36 (oMv rfl rfl) <| sq z36 (oNl rfl rfl rfl) <| sq z36 (oFA (r' := .mp 0 0 6) rfl fF68_6 rfl rfl) <| sq z36 (oSt tF2 rfl rfl rfl (tkI tk0) rfl rfl rfl) <| nl) ?_
    refine Unw.seq ?_
    refine Go.seq ?_
    obtain ⟨x31, hx31, h⟩ := bs h
    refine Go.r1 c36 rfl rfl (st1 := mk [(0, .v false [.mp 0 0 0])] [(0, some ⟨0, 0, true, true, false, true, [⟨.imm, 0, 1, .cp [.sc (.int .i64 x_0.r.Width), .sc (.int .i64 x_0.r.Length)] 0⟩, ⟨.imm, 0, 1, .cp [.sc (.int .i64 x_0.k.Board), .sc (.int .i64 x_0.k.Wide), .sc (.int .i64 x_0.k.Least), .sc (.int .i64 x_0.k.Stagger)] 0⟩, ⟨.imm, 0, 0, .sc (.int .i64 x_0.n)⟩, ⟨.imm, 0, 0, .sc (.int .i64 x_0.step)⟩, ⟨.sh, 0, 0, .row 1 (List.map eI x_0.firsts)⟩, ⟨.sh, 0, 0, .row 1 (List.map eI x_0.best)⟩, ⟨.imm, 0, 0, .sc (.int .i64 boards_2)⟩, ⟨.imm, 0, 0, .sc (.int .i64 x_0.nodes)⟩, ⟨.imm, 0, 0, .sc (.int .i64 x_0.budget)⟩, ⟨.imm, 0, 0, .sc (.bool x_0.full)⟩]⟩)]) (by kernel_rfl) (sq z36 (oMv rfl rfl) <| sq z36 (oMv rfl rfl) <| sq z36 (oNl rfl rfl rfl) <| sq z36 (oFA (r' := .mp 0 0 4) rfl fF68_4 rfl rfl) <| sq z36 (oLd (cs := [.own 0 0 4]) rfl tF26 rfl rfl) <| sq z36 (oCr (xs := [.v false [.own 0 0 4]]) (vs := [(false, [.own 31 0 0])]) (v := .v false [.own 31 0 0]) (c := ⟨.sh, 0, _⟩) (cs := []) (L_spec_l00Own hx31) rfl rfl kF50_26 rfl (ppC rfl pp0) rfl rfl pb0 rfl rfl rfl) <| sq z36 (oNl rfl rfl rfl) <| sq z36 (oFA (r' := .mp 0 0 5) rfl fF68_5 rfl rfl) <| sq z36 (oSt tF26 rfl rfl rfl (tkO rfl rfl tk0) rfl rfl rfl) <| nl) ?_
    refine Unw.seq ?_
    refine Go.ret (Unw.ret ?_)
    cases h
    exact Fin_ret (fin_of rfl rF36 rfl (by kernel_rfl))
  · rw [if_neg hc1] at h
    refine Go.condF rfl (byF iEq hc1) ?_
    refine Go.skip ?_
    refine Unw.seq ?_
    refine Go.seq ?_
    refine Go.r0 c36 rfl rfl (sq z36 (oMv rfl rfl) <| sq z36 (oNl rfl rfl rfl) <| sq z36 (oFA (r' := .mp 0 0 1) rfl fF68_1 rfl rfl) <| sq z36 (oLd (cs := [.im 1 _]) rfl tF45 rfl rfl) <| sq z36 (oNl rfl rfl rfl) <| sq z36 (oFA (r' := .im 1 _) rfl fF31_0 rfl rfl) <| sq z36 (oLd (cs := [.im 1 _]) rfl tF2 rfl rfl) <| sq z36 (oAsI rfl rfl) <| nl) ?_
    refine Unw.seq ?_
    refine Go.block ?_
    obtain ⟨o, hl, h⟩ := bs h
    refine Go.lp c36 rfl _ (fun (s : (Int × Int × Int × Int × Int × Int × Int × Int × Int × (List Int) × (List Int) × Int × Int × Int × Bool)) => match s with | (f_7_l5, x_o0_0_0_l5, x_o0_0_1_l5, x_o0_1_0_l5, x_o0_1_1_l5, x_o0_1_2_l5, x_o0_1_3_l5, x_o0_2_l5, x_o0_3_l5, x_o0_4_l5, x_o0_5_l5, x_o0_6_l5, x_o0_7_l5, x_o0_8_l5, x_o0_9_l5) => mk [(0, .v false [.mp 0 0 0]), (1, .v false [.im 2 (.row 1 (List.map eI last_1))]), (2, iv boards_2), (6, iv (x_0.firsts.length : Int)), (7, iv f_7_l5)] [(0, some ⟨0, 0, true, true, false, true, [⟨.imm, 0, 1, .cp [.sc (.int .i64 x_o0_0_0_l5), .sc (.int .i64 x_o0_0_1_l5)] 0⟩, ⟨.imm, 0, 1, .cp [.sc (.int .i64 x_o0_1_0_l5), .sc (.int .i64 x_o0_1_1_l5), .sc (.int .i64 x_o0_1_2_l5), .sc (.int .i64 x_o0_1_3_l5)] 0⟩, ⟨.imm, 0, 0, .sc (.int .i64 x_o0_2_l5)⟩, ⟨.imm, 0, 0, .sc (.int .i64 x_o0_3_l5)⟩, ⟨.sh, 0, 0, .row 1 (List.map eI x_o0_4_l5)⟩, ⟨.sh, 0, 0, .row 1 (List.map eI x_o0_5_l5)⟩, ⟨.imm, 0, 0, .sc (.int .i64 x_o0_6_l5)⟩, ⟨.imm, 0, 0, .sc (.int .i64 x_o0_7_l5)⟩, ⟨.imm, 0, 0, .sc (.int .i64 x_o0_8_l5)⟩, ⟨.imm, 0, 0, .sc (.bool x_o0_9_l5)⟩]⟩)]) (fun (o : (S_l30Search ⊕ S_l30Search)) (p : Ex × St) => match o with | (.inl r2) => p.1 = .exit 0 ∧ fin Try.prog cfg 36 Try.f36 [.ptr true [(.imm, .cp [.sc (.int .i64 x_0.r.Width), .sc (.int .i64 x_0.r.Length)] 0), (.imm, .cp [.sc (.int .i64 x_0.k.Board), .sc (.int .i64 x_0.k.Wide), .sc (.int .i64 x_0.k.Least), .sc (.int .i64 x_0.k.Stagger)] 0), (.imm, .sc (.int .i64 x_0.n)), (.imm, .sc (.int .i64 x_0.step)), (.sh, .row 1 (List.map eI x_0.firsts)), (.sh, .row 1 (List.map eI x_0.best)), (.imm, .sc (.int .i64 x_0.least)), (.imm, .sc (.int .i64 x_0.nodes)), (.imm, .sc (.int .i64 x_0.budget)), (.imm, .sc (.bool x_0.full))], .im 2 false [.row 1 (List.map eI last_1)], .im 2 false [.sc (.int .i64 boards_2)]] p.2 = some ([], [.ptr true [(.imm, .cp [.sc (.int .i64 r2.r.Width), .sc (.int .i64 r2.r.Length)] 0), (.imm, .cp [.sc (.int .i64 r2.k.Board), .sc (.int .i64 r2.k.Wide), .sc (.int .i64 r2.k.Least), .sc (.int .i64 r2.k.Stagger)] 0), (.imm, .sc (.int .i64 r2.n)), (.imm, .sc (.int .i64 r2.step)), (.sh, .row 1 (List.map eI r2.firsts)), (.sh, .row 1 (List.map eI r2.best)), (.imm, .sc (.int .i64 r2.least)), (.imm, .sc (.int .i64 r2.nodes)), (.imm, .sc (.int .i64 r2.budget)), (.imm, .sc (.bool r2.full))]]) | (.inr r2) => p.1 = .ret ∧ fin Try.prog cfg 36 Try.f36 [.ptr true [(.imm, .cp [.sc (.int .i64 x_0.r.Width), .sc (.int .i64 x_0.r.Length)] 0), (.imm, .cp [.sc (.int .i64 x_0.k.Board), .sc (.int .i64 x_0.k.Wide), .sc (.int .i64 x_0.k.Least), .sc (.int .i64 x_0.k.Stagger)] 0), (.imm, .sc (.int .i64 x_0.n)), (.imm, .sc (.int .i64 x_0.step)), (.sh, .row 1 (List.map eI x_0.firsts)), (.sh, .row 1 (List.map eI x_0.best)), (.imm, .sc (.int .i64 x_0.least)), (.imm, .sc (.int .i64 x_0.nodes)), (.imm, .sc (.int .i64 x_0.budget)), (.imm, .sc (.bool x_0.full))], .im 2 false [.row 1 (List.map eI last_1)], .im 2 false [.sc (.int .i64 boards_2)]] p.2 = some ([], [.ptr true [(.imm, .cp [.sc (.int .i64 r2.r.Width), .sc (.int .i64 r2.r.Length)] 0), (.imm, .cp [.sc (.int .i64 r2.k.Board), .sc (.int .i64 r2.k.Wide), .sc (.int .i64 r2.k.Least), .sc (.int .i64 r2.k.Stagger)] 0), (.imm, .sc (.int .i64 r2.n)), (.imm, .sc (.int .i64 r2.step)), (.sh, .row 1 (List.map eI r2.firsts)), (.sh, .row 1 (List.map eI r2.best)), (.imm, .sc (.int .i64 r2.least)), (.imm, .sc (.int .i64 r2.nodes)), (.imm, .sc (.int .i64 r2.budget)), (.imm, .sc (.bool r2.full))]])) hl (by kernel_rfl) ?_ ?_ ?_
    · intro o p hp e
      rcases o with r2 | r2 <;> exact nomatch (hp.1.symm.trans e)
    · rintro ⟨f_7_l5, x_o0_0_0_l5, x_o0_0_1_l5, x_o0_1_0_l5, x_o0_1_1_l5, x_o0_1_2_l5, x_o0_1_3_l5, x_o0_2_l5, x_o0_3_l5, x_o0_4_l5, x_o0_5_l5, x_o0_6_l5, x_o0_7_l5, x_o0_8_l5, x_o0_9_l5⟩ o h
      unfold spec_l30Search_run_l5 at h
      dsimp only at h
      refine Go.seq ?_
      refine Go.seq ?_
      refine Go.rX c36 rfl rfl rfl (mk [(0, .v false [.mp 0 0 0]), (1, .v false [.im 2 (.row 1 (List.map eI last_1))]), (2, iv boards_2), (6, iv (x_0.firsts.length : Int)), (7, iv f_7_l5), (56, bv ((decide (f_7_l5 ≥ x_o0_1_2_l5)) && (!x_o0_9_l5)))] [(0, some ⟨0, 0, true, true, false, true, [⟨.imm, 0, 1, .cp [.sc (.int .i64 x_o0_0_0_l5), .sc (.int .i64 x_o0_0_1_l5)] 0⟩, ⟨.imm, 0, 1, .cp [.sc (.int .i64 x_o0_1_0_l5), .sc (.int .i64 x_o0_1_1_l5), .sc (.int .i64 x_o0_1_2_l5), .sc (.int .i64 x_o0_1_3_l5)] 0⟩, ⟨.imm, 0, 0, .sc (.int .i64 x_o0_2_l5)⟩, ⟨.imm, 0, 0, .sc (.int .i64 x_o0_3_l5)⟩, ⟨.sh, 0, 0, .row 1 (List.map eI x_o0_4_l5)⟩, ⟨.sh, 0, 0, .row 1 (List.map eI x_o0_5_l5)⟩, ⟨.imm, 0, 0, .sc (.int .i64 x_o0_6_l5)⟩, ⟨.imm, 0, 0, .sc (.int .i64 x_o0_7_l5)⟩, ⟨.imm, 0, 0, .sc (.int .i64 x_o0_8_l5)⟩, ⟨.imm, 0, 0, .sc (.bool x_o0_9_l5)⟩]⟩)]) ?_ ?_
      · by_cases hc18 : f_7_l5 ≥ x_o0_1_2_l5
        · exact ⟨_, sq z36 (oMv rfl rfl) <| sq z36 (oMv rfl rfl) <| sq z36 (oNl rfl rfl rfl) <| sq z36 (oFA (r' := .mp 0 0 1) rfl fF68_1 rfl rfl) <| sq z36 (oLd (cs := [.im 1 _]) rfl tF45 rfl rfl) <| sq z36 (oNl rfl rfl rfl) <| sq z36 (oFA (r' := .im 1 _) rfl fF31_2 rfl rfl) <| sq z36 (oLd (cs := [.im 1 _]) rfl tF2 rfl rfl) <| sq z36 (oBi rfl rfl rfl rfl) <| sq z36 (oMv rfl rfl) <| sgT z36 rfl rfl (iDec.2 hc18) (oMv rfl rfl) <| sgT z36 rfl rfl (iDec.2 hc18) (oNl rfl rfl rfl) <| sgT z36 rfl rfl (iDec.2 hc18) (oFA (r' := .mp 0 0 9) rfl fF68_9 rfl rfl) <| sgT z36 rfl rfl (iDec.2 hc18) (oLd (cs := [.im 0 _]) rfl tF4 rfl rfl) <| sgT z36 rfl rfl (iDec.2 hc18) (oUn rfl rfl rfl) <| sq z36 (oPkT rfl rfl (iDec.2 hc18) rfl) <| nl, (Eq.trans (b := (fun t_56_m5 : Bool => mk [(0, .v false [.mp 0 0 0]), (1, .v false [.im 2 (.row 1 (List.map eI last_1))]), (2, iv boards_2), (6, iv (x_0.firsts.length : Int)), (7, iv f_7_l5), (56, bv t_56_m5)] [(0, some ⟨0, 0, true, true, false, true, [⟨.imm, 0, 1, .cp [.sc (.int .i64 x_o0_0_0_l5), .sc (.int .i64 x_o0_0_1_l5)] 0⟩, ⟨.imm, 0, 1, .cp [.sc (.int .i64 x_o0_1_0_l5), .sc (.int .i64 x_o0_1_1_l5), .sc (.int .i64 x_o0_1_2_l5), .sc (.int .i64 x_o0_1_3_l5)] 0⟩, ⟨.imm, 0, 0, .sc (.int .i64 x_o0_2_l5)⟩, ⟨.imm, 0, 0, .sc (.int .i64 x_o0_3_l5)⟩, ⟨.sh, 0, 0, .row 1 (List.map eI x_o0_4_l5)⟩, ⟨.sh, 0, 0, .row 1 (List.map eI x_o0_5_l5)⟩, ⟨.imm, 0, 0, .sc (.int .i64 x_o0_6_l5)⟩, ⟨.imm, 0, 0, .sc (.int .i64 x_o0_7_l5)⟩, ⟨.imm, 0, 0, .sc (.int .i64 x_o0_8_l5)⟩, ⟨.imm, 0, 0, .sc (.bool x_o0_9_l5)⟩]⟩)]) (!x_o0_9_l5)) (by kernel_rfl) (congrArg (fun t_56_m5 : Bool => mk [(0, .v false [.mp 0 0 0]), (1, .v false [.im 2 (.row 1 (List.map eI last_1))]), (2, iv boards_2), (6, iv (x_0.firsts.length : Int)), (7, iv f_7_l5), (56, bv t_56_m5)] [(0, some ⟨0, 0, true, true, false, true, [⟨.imm, 0, 1, .cp [.sc (.int .i64 x_o0_0_0_l5), .sc (.int .i64 x_o0_0_1_l5)] 0⟩, ⟨.imm, 0, 1, .cp [.sc (.int .i64 x_o0_1_0_l5), .sc (.int .i64 x_o0_1_1_l5), .sc (.int .i64 x_o0_1_2_l5), .sc (.int .i64 x_o0_1_3_l5)] 0⟩, ⟨.imm, 0, 0, .sc (.int .i64 x_o0_2_l5)⟩, ⟨.imm, 0, 0, .sc (.int .i64 x_o0_3_l5)⟩, ⟨.sh, 0, 0, .row 1 (List.map eI x_o0_4_l5)⟩, ⟨.sh, 0, 0, .row 1 (List.map eI x_o0_5_l5)⟩, ⟨.imm, 0, 0, .sc (.int .i64 x_o0_6_l5)⟩, ⟨.imm, 0, 0, .sc (.int .i64 x_o0_7_l5)⟩, ⟨.imm, 0, 0, .sc (.int .i64 x_o0_8_l5)⟩, ⟨.imm, 0, 0, .sc (.bool x_o0_9_l5)⟩]⟩)]) (by first | rfl | simp [(iDec.2 hc18)])))⟩
        · exact ⟨_, sq z36 (oMv rfl rfl) <| sq z36 (oMv rfl rfl) <| sq z36 (oNl rfl rfl rfl) <| sq z36 (oFA (r' := .mp 0 0 1) rfl fF68_1 rfl rfl) <| sq z36 (oLd (cs := [.im 1 _]) rfl tF45 rfl rfl) <| sq z36 (oNl rfl rfl rfl) <| sq z36 (oFA (r' := .im 1 _) rfl fF31_2 rfl rfl) <| sq z36 (oLd (cs := [.im 1 _]) rfl tF2 rfl rfl) <| sq z36 (oBi rfl rfl rfl rfl) <| sq z36 (oMv rfl rfl) <| sgF rfl rfl (byF iDec hc18) rfl <| sgF rfl rfl (byF iDec hc18) rfl <| sgF rfl rfl (byF iDec hc18) rfl <| sgF rfl rfl (byF iDec hc18) rfl <| sgF rfl rfl (byF iDec hc18) rfl <| sq z36 (oPkF rfl rfl (byF iDec hc18) rfl) <| nl, (Eq.trans (b := (fun t_56_m5 : Bool => mk [(0, .v false [.mp 0 0 0]), (1, .v false [.im 2 (.row 1 (List.map eI last_1))]), (2, iv boards_2), (6, iv (x_0.firsts.length : Int)), (7, iv f_7_l5), (56, bv t_56_m5)] [(0, some ⟨0, 0, true, true, false, true, [⟨.imm, 0, 1, .cp [.sc (.int .i64 x_o0_0_0_l5), .sc (.int .i64 x_o0_0_1_l5)] 0⟩, ⟨.imm, 0, 1, .cp [.sc (.int .i64 x_o0_1_0_l5), .sc (.int .i64 x_o0_1_1_l5), .sc (.int .i64 x_o0_1_2_l5), .sc (.int .i64 x_o0_1_3_l5)] 0⟩, ⟨.imm, 0, 0, .sc (.int .i64 x_o0_2_l5)⟩, ⟨.imm, 0, 0, .sc (.int .i64 x_o0_3_l5)⟩, ⟨.sh, 0, 0, .row 1 (List.map eI x_o0_4_l5)⟩, ⟨.sh, 0, 0, .row 1 (List.map eI x_o0_5_l5)⟩, ⟨.imm, 0, 0, .sc (.int .i64 x_o0_6_l5)⟩, ⟨.imm, 0, 0, .sc (.int .i64 x_o0_7_l5)⟩, ⟨.imm, 0, 0, .sc (.int .i64 x_o0_8_l5)⟩, ⟨.imm, 0, 0, .sc (.bool x_o0_9_l5)⟩]⟩)]) false) (by kernel_rfl) (congrArg (fun t_56_m5 : Bool => mk [(0, .v false [.mp 0 0 0]), (1, .v false [.im 2 (.row 1 (List.map eI last_1))]), (2, iv boards_2), (6, iv (x_0.firsts.length : Int)), (7, iv f_7_l5), (56, bv t_56_m5)] [(0, some ⟨0, 0, true, true, false, true, [⟨.imm, 0, 1, .cp [.sc (.int .i64 x_o0_0_0_l5), .sc (.int .i64 x_o0_0_1_l5)] 0⟩, ⟨.imm, 0, 1, .cp [.sc (.int .i64 x_o0_1_0_l5), .sc (.int .i64 x_o0_1_1_l5), .sc (.int .i64 x_o0_1_2_l5), .sc (.int .i64 x_o0_1_3_l5)] 0⟩, ⟨.imm, 0, 0, .sc (.int .i64 x_o0_2_l5)⟩, ⟨.imm, 0, 0, .sc (.int .i64 x_o0_3_l5)⟩, ⟨.sh, 0, 0, .row 1 (List.map eI x_o0_4_l5)⟩, ⟨.sh, 0, 0, .row 1 (List.map eI x_o0_5_l5)⟩, ⟨.imm, 0, 0, .sc (.int .i64 x_o0_6_l5)⟩, ⟨.imm, 0, 0, .sc (.int .i64 x_o0_7_l5)⟩, ⟨.imm, 0, 0, .sc (.int .i64 x_o0_8_l5)⟩, ⟨.imm, 0, 0, .sc (.bool x_o0_9_l5)⟩]⟩)]) (by first | rfl | simp [(byF iDec hc18)])))⟩
      · refine Unw.seq ?_
        by_cases hc19 : (f_7_l5 ≥ x_o0_1_2_l5 ∧ ¬ (x_o0_9_l5 = true))
        · rw [if_pos hc19] at h
          refine Go.condT rfl ((iAnd iDec (iNot Iff.rfl)).2 hc19) ?_
          refine Go.skip ?_
          refine Unw.seq ?_
          refine Go.seq ?_
          refine Go.join (fun st => ∃ x_o0_0_0_r6, ∃ x_o0_0_1_r6, ∃ x_o0_1_0_r6, ∃ x_o0_1_1_r6, ∃ x_o0_1_2_r6, ∃ x_o0_1_3_r6, ∃ x_o0_2_r6, ∃ x_o0_3_r6, ∃ x_o0_4_r6, ∃ x_o0_5_r6, ∃ x_o0_6_r6, ∃ x_o0_7_r6, ∃ x_o0_8_r6, ∃ x_o0_9_r6, spec_l30Search_run_k6 self f_7_l5 x_o0_0_0_r6 x_o0_0_1_r6 x_o0_1_0_r6 x_o0_1_1_r6 x_o0_1_2_r6 x_o0_1_3_r6 x_o0_2_r6 x_o0_3_r6 x_o0_4_r6 x_o0_5_r6 x_o0_6_r6 x_o0_7_r6 x_o0_8_r6 x_o0_9_r6 = some o ∧ st.norm ([0, 1, 2, 6, 7], [0]) = mk [(0, .v false [.mp 0 0 0]), (1, .v false [.im 2 (.row 1 (List.map eI last_1))]), (2, iv boards_2), (6, iv (x_0.firsts.length : Int)), (7, iv f_7_l5)] [(0, some ⟨0, 0, true, true, false, true, [⟨.imm, 0, 1, .cp [.sc (.int .i64 x_o0_0_0_r6), .sc (.int .i64 x_o0_0_1_r6)] 0⟩, ⟨.imm, 0, 1, .cp [.sc (.int .i64 x_o0_1_0_r6), .sc (.int .i64 x_o0_1_1_r6), .sc (.int .i64 x_o0_1_2_r6), .sc (.int .i64 x_o0_1_3_r6)] 0⟩, ⟨.imm, 0, 0, .sc (.int .i64 x_o0_2_r6)⟩, ⟨.imm, 0, 0, .sc (.int .i64 x_o0_3_r6)⟩, ⟨.sh, 0, 0, .row 1 (List.map eI x_o0_4_r6)⟩, ⟨.sh, 0, 0, .row 1 (List.map eI x_o0_5_r6)⟩, ⟨.imm, 0, 0, .sc (.int .i64 x_o0_6_r6)⟩, ⟨.imm, 0, 0, .sc (.int .i64 x_o0_7_r6)⟩, ⟨.imm, 0, 0, .sc (.int .i64 x_o0_8_r6)⟩, ⟨.imm, 0, 0, .sc (.bool x_o0_9_r6)⟩]⟩)]) ?_ ?_
          · rintro st ⟨x_o0_0_0_r6, x_o0_0_1_r6, x_o0_1_0_r6, x_o0_1_1_r6, x_o0_1_2_r6, x_o0_1_3_r6, x_o0_2_r6, x_o0_3_r6, x_o0_4_r6, x_o0_5_r6, x_o0_6_r6, x_o0_7_r6, x_o0_8_r6, x_o0_9_r6, h, hst⟩
            unfold spec_l30Search_run_k6 at h
            refine Unw.seq ?_
            refine Go.r1 c36 rfl rfl hst (sq z36 (oMv rfl rfl) <| sq z36 (oMv rfl rfl) <| sq z36 (oNl rfl rfl rfl) <| sq z36 (oFA (r' := .mp 0 0 3) rfl fF68_3 rfl rfl) <| sq z36 (oLd (cs := [.im 0 _]) rfl tF2 rfl rfl) <| sq z36 (oBi rfl rfl rfl rfl) <| sq z36 (oAsI rfl rfl) <| nl) ?_
            refine Unw.nil ?_
            cases h
            exact ⟨rfl, (by kernel_rfl)⟩
          · intro K26
            refine Go.block ?_
            refine Go.seq ?_
            obtain ⟨x73, hx73, h⟩ := bs h
            refine Go.dr c36 rfl rfl rfl rfl (mk [(0, .v false [.mp 0 0 0]), (1, .v false [.im 2 (.row 1 (List.map eI last_1))]), (2, iv boards_2), (6, iv (x_0.firsts.length : Int)), (7, iv f_7_l5), (8, .v false [.own 8 0 0]), (9, iv x73.2)] [(0, some ⟨0, 0, true, true, false, true, [⟨.imm, 0, 1, .cp [.sc (.int .i64 x_o0_0_0_l5), .sc (.int .i64 x_o0_0_1_l5)] 0⟩, ⟨.imm, 0, 1, .cp [.sc (.int .i64 x_o0_1_0_l5), .sc (.int .i64 x_o0_1_1_l5), .sc (.int .i64 x_o0_1_2_l5), .sc (.int .i64 x_o0_1_3_l5)] 0⟩, ⟨.imm, 0, 0, .sc (.int .i64 x_o0_2_l5)⟩, ⟨.imm, 0, 0, .sc (.int .i64 x_o0_3_l5)⟩, ⟨.sh, 0, 0, .row 1 (List.map eI x_o0_4_l5)⟩, ⟨.sh, 0, 0, .row 1 (List.map eI x_o0_5_l5)⟩, ⟨.imm, 0, 0, .sc (.int .i64 x_o0_6_l5)⟩, ⟨.imm, 0, 0, .sc (.int .i64 x_o0_7_l5)⟩, ⟨.imm, 0, 0, .sc (.int .i64 x_o0_8_l5)⟩, ⟨.imm, 0, 0, .sc (.bool x_o0_9_l5)⟩]⟩), (8, some ⟨0, 0, false, false, false, false, [⟨.sh, 0, 0, .row 1 (List.map eI x73.1)⟩]⟩)]) (sT rfl (dN z36 rfl (oMv rfl rfl)) <| sT rfl (dN z36 rfl (oNl rfl rfl rfl)) <| sT rfl (dN z36 rfl (oFA (r' := .mp 0 0 0) rfl fF68_0 rfl rfl)) <| sT rfl (dN z36 rfl (oLd (cs := [.im 1 _]) rfl tF44 rfl rfl)) <| sT rfl (dN z36 rfl (oMv rfl rfl)) <| sT rfl (dN z36 rfl (oNl rfl rfl rfl)) <| sT rfl (dN z36 rfl (oFA (r' := .mp 0 0 1) rfl fF68_1 rfl rfl)) <| sT rfl (dN z36 rfl (oLd (cs := [.im 1 _]) rfl tF45 rfl rfl)) <| sT rfl (dN z36 rfl (oMv rfl rfl)) <| sS (dN z36 rfl (oCr (xs := [.v false [.im 1 _], .v false [.im 1 _], .v false [.im 0 _]]) (vs := [(false, [.own 73 0 0]), (false, [.im 0 _])]) (v := .tup [(false, [.own 73 0 0]), (false, [.im 0 _])]) (c := ⟨.sh, 0, _⟩) (cs := []) (L_spec_l30Pieces hx73) rfl rfl kF29_44_45_2 rfl (ppC rfl (ppC rfl (ppC rfl pp0))) rfl rfl pb0 rfl rfl rfl)) (sT rfl (dN z36 rfl (oMvT rfl rfl)) <| sT rfl (dN z36 rfl (oEx rfl rfl rfl)) <| sF (dN z36 rfl (oEx rfl rfl rfl)) (sS (dN z36 rfl (oAsO rfl rfl rfl rfl rfl)) (sS (dN z36 rfl (oAsI rfl rfl)) (sD (by kernel_rfl)))) (sS (dN z36 rfl (oAsO rfl rfl rfl rfl rfl)) (sT rfl (dN z36 rfl (oEx rfl rfl rfl)) <| sS (dN z36 rfl (oAsI rfl rfl)) (sD (by kernel_rfl)))))) ?_
            refine Unw.seq ?_
            refine Go.seq ?_
            refine Go.seq ?_
            obtain ⟨t_87_m8, hm32, h⟩ := bs h
            refine Go.rX c36 rfl rfl rfl (mk [(0, .v false [.mp 0 0 0]), (1, .v false [.im 2 (.row 1 (List.map eI last_1))]), (2, iv boards_2), (6, iv (x_0.firsts.length : Int)), (7, iv f_7_l5), (8, .v false [.own 8 0 0]), (87, bv t_87_m8)] [(0, some ⟨0, 0, true, true, false, true, [⟨.imm, 0, 1, .cp [.sc (.int .i64 x_o0_0_0_l5), .sc (.int .i64 x_o0_0_1_l5)] 0⟩, ⟨.imm, 0, 1, .cp [.sc (.int .i64 x_o0_1_0_l5), .sc (.int .i64 x_o0_1_1_l5), .sc (.int .i64 x_o0_1_2_l5), .sc (.int .i64 x_o0_1_3_l5)] 0⟩, ⟨.imm, 0, 0, .sc (.int .i64 x_o0_2_l5)⟩, ⟨.imm, 0, 0, .sc (.int .i64 x_o0_3_l5)⟩, ⟨.sh, 0, 0, .row 1 (List.map eI x_o0_4_l5)⟩, ⟨.sh, 0, 0, .row 1 (List.map eI x_o0_5_l5)⟩, ⟨.imm, 0, 0, .sc (.int .i64 x_o0_6_l5)⟩, ⟨.imm, 0, 0, .sc (.int .i64 x_o0_7_l5)⟩, ⟨.imm, 0, 0, .sc (.int .i64 x_o0_8_l5)⟩, ⟨.imm, 0, 0, .sc (.bool x_o0_9_l5)⟩]⟩), (8, some ⟨0, 0, false, false, false, false, [⟨.sh, 0, 0, .row 1 (List.map eI x73.1)⟩]⟩)]) ?_ ?_
            · by_cases hc27 : x73.2 ≠ 0
              · rw [if_pos hc27] at hm32
                cases hm32
                exact ⟨_, sq z36 (oMv rfl rfl) <| sq z36 (oBi rfl rfl rfl rfl) <| sq z36 (oMv rfl rfl) <| sgF rfl rfl (iNe.2 hc27) rfl <| sgF rfl rfl (iNe.2 hc27) rfl <| sgF rfl rfl (iNe.2 hc27) rfl <| sgF rfl rfl (iNe.2 hc27) rfl <| sgF rfl rfl (iNe.2 hc27) rfl <| sgF rfl rfl (iNe.2 hc27) rfl <| sgF rfl rfl (iNe.2 hc27) rfl <| sgF rfl rfl (iNe.2 hc27) rfl <| sq z36 (oPkT rfl rfl (iNe.2 hc27) rfl) <| nl, (by kernel_rfl)⟩
              · rw [if_neg hc27] at hm32
                obtain ⟨x85, hx85, hm32⟩ := bs hm32
                cases hm32
                exact ⟨_, sq z36 (oMv rfl rfl) <| sq z36 (oBi rfl rfl rfl rfl) <| sq z36 (oMv rfl rfl) <| sgT z36 rfl rfl (byF iNe hc27) (oMv rfl rfl) <| sgT z36 rfl rfl (byF iNe hc27) (oNl rfl rfl rfl) <| sgT z36 rfl rfl (byF iNe hc27) (oFA (r' := .mp 0 0 1) rfl fF68_1 rfl rfl) <| sgT z36 rfl rfl (byF iNe hc27) (oLd (cs := [.im 1 _]) rfl tF45 rfl rfl) <| sgT z36 rfl rfl (byF iNe hc27) (oMv rfl rfl) <| sgT z36 rfl rfl (byF iNe hc27) (oMv rfl rfl) <| sgT z36 rfl rfl (byF iNe hc27) (oCa (xs := [.v false [.im 1 _], .v false [.im 2 _], .v false [.own 8 0 0]]) (vs := [(false, [.im 0 _])]) (v := .v false [.im 0 _]) (L_spec_l30Apart hx85) rfl rfl kF30_45_26_26 rfl (ppC rfl (ppC rfl (ppC rfl pp0))) rfl rfl pb0 rfl rfl rfl) <| sgT z36 rfl rfl (byF iNe hc27) (oUn rfl rfl rfl) <| sq z36 (oPkF rfl rfl (byF iNe hc27) rfl) <| nl, (by kernel_rfl)⟩
            · refine Unw.seq ?_
              by_cases hc28 : t_87_m8 = true
              · rw [if_pos hc28] at h
                refine Go.condT rfl (Iff.rfl.2 hc28) ?_
                refine Go.exit ?_
                refine Unw.seqx ?_
                refine Unw.blkx ?_
                exact K26 _ ⟨x_o0_0_0_l5, x_o0_0_1_l5, x_o0_1_0_l5, x_o0_1_1_l5, x_o0_1_2_l5, x_o0_1_3_l5, x_o0_2_l5, x_o0_3_l5, x_o0_4_l5, x_o0_5_l5, x_o0_6_l5, x_o0_7_l5, x_o0_8_l5, x_o0_9_l5, h, (by kernel_rfl)⟩
              · rw [if_neg hc28] at h
                refine Go.condF rfl (byF Iff.rfl hc28) ?_
                refine Go.skip ?_
                refine Unw.seq ?_
                refine Go.seq ?_
                obtain ⟨x95, hx95, h⟩ := bs h
                refine Go.r0 c36 rfl rfl (sq z36 (oMv rfl rfl) <| sq z36 (oMv rfl rfl) <| sq z36 (oNl rfl rfl rfl) <| sq z36 (oFA (r' := .mp 0 0 1) rfl fF68_1 rfl rfl) <| sq z36 (oLd (cs := [.im 1 _]) rfl tF45 rfl rfl) <| sq z36 (oMv rfl rfl) <| sq z36 (oMv rfl rfl) <| sq z36 (oCa (xs := [.v false [.im 1 _], .v false [.im 2 _], .v false [.own 8 0 0]]) (vs := [(false, [.im 0 _])]) (v := .v false [.im 0 _]) (L_spec_l30Boards hx95) rfl rfl kF41_45_26_26 rfl (ppC rfl (ppC rfl (ppC rfl pp0))) rfl rfl pb0 rfl rfl rfl) <| sq z36 (oBi rfl rfl rfl rfl) <| sq z36 (oAsI rfl rfl) <| nl) ?_
                refine Unw.seq ?_
                refine Go.seq ?_
                refine Go.seq ?_
                refine Go.rX c36 rfl rfl rfl (mk [(0, .v false [.mp 0 0 0]), (1, .v false [.im 2 (.row 1 (List.map eI last_1))]), (2, iv boards_2), (6, iv (x_0.firsts.length : Int)), (7, iv f_7_l5), (8, .v false [.own 8 0 0]), (10, iv (w64 (boards_2 + x95))), (109, bv ((decide (x_o0_6_l5 ≥ 0)) && (decide ((w64 (boards_2 + x95)) ≥ x_o0_6_l5))))] [(0, some ⟨0, 0, true, true, false, true, [⟨.imm, 0, 1, .cp [.sc (.int .i64 x_o0_0_0_l5), .sc (.int .i64 x_o0_0_1_l5)] 0⟩, ⟨.imm, 0, 1, .cp [.sc (.int .i64 x_o0_1_0_l5), .sc (.int .i64 x_o0_1_1_l5), .sc (.int .i64 x_o0_1_2_l5), .sc (.int .i64 x_o0_1_3_l5)] 0⟩, ⟨.imm, 0, 0, .sc (.int .i64 x_o0_2_l5)⟩, ⟨.imm, 0, 0, .sc (.int .i64 x_o0_3_l5)⟩, ⟨.sh, 0, 0, .row 1 (List.map eI x_o0_4_l5)⟩, ⟨.sh, 0, 0, .row 1 (List.map eI x_o0_5_l5)⟩, ⟨.imm, 0, 0, .sc (.int .i64 x_o0_6_l5)⟩, ⟨.imm, 0, 0, .sc (.int .i64 x_o0_7_l5)⟩, ⟨.imm, 0, 0, .sc (.int .i64 x_o0_8_l5)⟩, ⟨.imm, 0, 0, .sc (.bool x_o0_9_l5)⟩]⟩), (8, some ⟨0, 0, false, false, false, false, [⟨.sh, 0, 0, .row 1 (List.map eI x73.1)⟩]⟩)]) ?_ ?_
                · by_cases hc29 : x_o0_6_l5 ≥ 0
                  · exact ⟨_, sq z36 (oMv rfl rfl) <| sq z36 (oNl rfl rfl rfl) <| sq z36 (oFA (r' := .mp 0 0 6) rfl fF68_6 rfl rfl) <| sq z36 (oLd (cs := [.im 0 _]) rfl tF2 rfl rfl) <| sq z36 (oBi rfl rfl rfl rfl) <| sq z36 (oMv rfl rfl) <| sgT z36 rfl rfl (iDec.2 hc29) (oMv rfl rfl) <| sgT z36 rfl rfl (iDec.2 hc29) (oMv rfl rfl) <| sgT z36 rfl rfl (iDec.2 hc29) (oNl rfl rfl rfl) <| sgT z36 rfl rfl (iDec.2 hc29) (oFA (r' := .mp 0 0 6) rfl fF68_6 rfl rfl) <| sgT z36 rfl rfl (iDec.2 hc29) (oLd (cs := [.im 0 _]) rfl tF2 rfl rfl) <| sgT z36 rfl rfl (iDec.2 hc29) (oBi rfl rfl rfl rfl) <| sq z36 (oPkT rfl rfl (iDec.2 hc29) rfl) <| nl, (Eq.trans (b := (fun t_109_m10 : Bool => mk [(0, .v false [.mp 0 0 0]), (1, .v false [.im 2 (.row 1 (List.map eI last_1))]), (2, iv boards_2), (6, iv (x_0.firsts.length : Int)), (7, iv f_7_l5), (8, .v false [.own 8 0 0]), (10, iv (w64 (boards_2 + x95))), (109, bv t_109_m10)] [(0, some ⟨0, 0, true, true, false, true, [⟨.imm, 0, 1, .cp [.sc (.int .i64 x_o0_0_0_l5), .sc (.int .i64 x_o0_0_1_l5)] 0⟩, ⟨.imm, 0, 1, .cp [.sc (.int .i64 x_o0_1_0_l5), .sc (.int .i64 x_o0_1_1_l5), .sc (.int .i64 x_o0_1_2_l5), .sc (.int .i64 x_o0_1_3_l5)] 0⟩, ⟨.imm, 0, 0, .sc (.int .i64 x_o0_2_l5)⟩, ⟨.imm, 0, 0, .sc (.int .i64 x_o0_3_l5)⟩, ⟨.sh, 0, 0, .row 1 (List.map eI x_o0_4_l5)⟩, ⟨.sh, 0, 0, .row 1 (List.map eI x_o0_5_l5)⟩, ⟨.imm, 0, 0, .sc (.int .i64 x_o0_6_l5)⟩, ⟨.imm, 0, 0, .sc (.int .i64 x_o0_7_l5)⟩, ⟨.imm, 0, 0, .sc (.int .i64 x_o0_8_l5)⟩, ⟨.imm, 0, 0, .sc (.bool x_o0_9_l5)⟩]⟩), (8, some ⟨0, 0, false, false, false, false, [⟨.sh, 0, 0, .row 1 (List.map eI x73.1)⟩]⟩)]) (decide ((w64 (boards_2 + x95)) ≥ x_o0_6_l5))) (by kernel_rfl) (congrArg (fun t_109_m10 : Bool => mk [(0, .v false [.mp 0 0 0]), (1, .v false [.im 2 (.row 1 (List.map eI last_1))]), (2, iv boards_2), (6, iv (x_0.firsts.length : Int)), (7, iv f_7_l5), (8, .v false [.own 8 0 0]), (10, iv (w64 (boards_2 + x95))), (109, bv t_109_m10)] [(0, some ⟨0, 0, true, true, false, true, [⟨.imm, 0, 1, .cp [.sc (.int .i64 x_o0_0_0_l5), .sc (.int .i64 x_o0_0_1_l5)] 0⟩, ⟨.imm, 0, 1, .cp [.sc (.int .i64 x_o0_1_0_l5), .sc (.int .i64 x_o0_1_1_l5), .sc (.int .i64 x_o0_1_2_l5), .sc (.int .i64 x_o0_1_3_l5)] 0⟩, ⟨.imm, 0, 0, .sc (.int .i64 x_o0_2_l5)⟩, ⟨.imm, 0, 0, .sc (.int .i64 x_o0_3_l5)⟩, ⟨.sh, 0, 0, .row 1 (List.map eI x_o0_4_l5)⟩, ⟨.sh, 0, 0, .row 1 (List.map eI x_o0_5_l5)⟩, ⟨.imm, 0, 0, .sc (.int .i64 x_o0_6_l5)⟩, ⟨.imm, 0, 0, .sc (.int .i64 x_o0_7_l5)⟩, ⟨.imm, 0, 0, .sc (.int .i64 x_o0_8_l5)⟩, ⟨.imm, 0, 0, .sc (.bool x_o0_9_l5)⟩]⟩), (8, some ⟨0, 0, false, false, false, false, [⟨.sh, 0, 0, .row 1 (List.map eI x73.1)⟩]⟩)]) (by first | rfl | simp [(iDec.2 hc29)])))⟩
                  · exact ⟨_, sq z36 (oMv rfl rfl) <| sq z36 (oNl rfl rfl rfl) <| sq z36 (oFA (r' := .mp 0 0 6) rfl fF68_6 rfl rfl) <| sq z36 (oLd (cs := [.im 0 _]) rfl tF2 rfl rfl) <| sq z36 (oBi rfl rfl rfl rfl) <| sq z36 (oMv rfl rfl) <| sgF rfl rfl (byF iDec hc29) rfl <| sgF rfl rfl (byF iDec hc29) rfl <| sgF rfl rfl (byF iDec hc29) rfl <| sgF rfl rfl (byF iDec hc29) rfl <| sgF rfl rfl (byF iDec hc29) rfl <| sgF rfl rfl (byF iDec hc29) rfl <| sq z36 (oPkF rfl rfl (byF iDec hc29) rfl) <| nl, (Eq.trans (b := (fun t_109_m10 : Bool => mk [(0, .v false [.mp 0 0 0]), (1, .v false [.im 2 (.row 1 (List.map eI last_1))]), (2, iv boards_2), (6, iv (x_0.firsts.length : Int)), (7, iv f_7_l5), (8, .v false [.own 8 0 0]), (10, iv (w64 (boards_2 + x95))), (109, bv t_109_m10)] [(0, some ⟨0, 0, true, true, false, true, [⟨.imm, 0, 1, .cp [.sc (.int .i64 x_o0_0_0_l5), .sc (.int .i64 x_o0_0_1_l5)] 0⟩, ⟨.imm, 0, 1, .cp [.sc (.int .i64 x_o0_1_0_l5), .sc (.int .i64 x_o0_1_1_l5), .sc (.int .i64 x_o0_1_2_l5), .sc (.int .i64 x_o0_1_3_l5)] 0⟩, ⟨.imm, 0, 0, .sc (.int .i64 x_o0_2_l5)⟩, ⟨.imm, 0, 0, .sc (.int .i64 x_o0_3_l5)⟩, ⟨.sh, 0, 0, .row 1 (List.map eI x_o0_4_l5)⟩, ⟨.sh, 0, 0, .row 1 (List.map eI x_o0_5_l5)⟩, ⟨.imm, 0, 0, .sc (.int .i64 x_o0_6_l5)⟩, ⟨.imm, 0, 0, .sc (.int .i64 x_o0_7_l5)⟩, ⟨.imm, 0, 0, .sc (.int .i64 x_o0_8_l5)⟩, ⟨.imm, 0, 0, .sc (.bool x_o0_9_l5)⟩]⟩), (8, some ⟨0, 0, false, false, false, false, [⟨.sh, 0, 0, .row 1 (List.map eI x73.1)⟩]⟩)]) false) (by kernel_rfl) (congrArg (fun t_109_m10 : Bool => mk [(0, .v false [.mp 0 0 0]), (1, .v false [.im 2 (.row 1 (List.map eI last_1))]), (2, iv boards_2), (6, iv (x_0.firsts.length : Int)), (7, iv f_7_l5), (8, .v false [.own 8 0 0]), (10, iv (w64 (boards_2 + x95))), (109, bv t_109_m10)] [(0, some ⟨0, 0, true, true, false, true, [⟨.imm, 0, 1, .cp [.sc (.int .i64 x_o0_0_0_l5), .sc (.int .i64 x_o0_0_1_l5)] 0⟩, ⟨.imm, 0, 1, .cp [.sc (.int .i64 x_o0_1_0_l5), .sc (.int .i64 x_o0_1_1_l5), .sc (.int .i64 x_o0_1_2_l5), .sc (.int .i64 x_o0_1_3_l5)] 0⟩, ⟨.imm, 0, 0, .sc (.int .i64 x_o0_2_l5)⟩, ⟨.imm, 0, 0, .sc (.int .i64 x_o0_3_l5)⟩, ⟨.sh, 0, 0, .row 1 (List.map eI x_o0_4_l5)⟩, ⟨.sh, 0, 0, .row 1 (List.map eI x_o0_5_l5)⟩, ⟨.imm, 0, 0, .sc (.int .i64 x_o0_6_l5)⟩, ⟨.imm, 0, 0, .sc (.int .i64 x_o0_7_l5)⟩, ⟨.imm, 0, 0, .sc (.int .i64 x_o0_8_l5)⟩, ⟨.imm, 0, 0, .sc (.bool x_o0_9_l5)⟩]⟩), (8, some ⟨0, 0, false, false, false, false, [⟨.sh, 0, 0, .row 1 (List.map eI x73.1)⟩]⟩)]) (by first | rfl | simp [(byF iDec hc29)])))⟩
                · refine Unw.seq ?_
                  by_cases hc30 : (x_o0_6_l5 ≥ 0 ∧ (w64 (boards_2 + x95)) ≥ x_o0_6_l5)
                  · rw [if_pos hc30] at h
                    refine Go.condT rfl ((iAnd iDec iDec).2 hc30) ?_
                    refine Go.exit ?_
                    refine Unw.seqx ?_
                    refine Unw.blkx ?_
                    exact K26 _ ⟨x_o0_0_0_l5, x_o0_0_1_l5, x_o0_1_0_l5, x_o0_1_1_l5, x_o0_1_2_l5, x_o0_1_3_l5, x_o0_2_l5, x_o0_3_l5, x_o0_4_l5, x_o0_5_l5, x_o0_6_l5, x_o0_7_l5, x_o0_8_l5, x_o0_9_l5, h, (by kernel_rfl)⟩
                  · rw [if_neg hc30] at h
                    refine Go.condF rfl (byF (iAnd iDec iDec) hc30) ?_
                    refine Go.skip ?_
                    refine Unw.seq ?_
                    refine Go.seq ?_
                    refine Go.seq ?_
                    refine Go.dr c36 rfl rfl rfl rfl (mk [(0, .v false [.mp 0 0 0]), (1, .v false [.im 2 (.row 1 (List.map eI last_1))]), (2, iv boards_2), (6, iv (x_0.firsts.length : Int)), (7, iv f_7_l5), (8, .v false [.own 8 0 0]), (10, iv (w64 (boards_2 + x95))), (118, bv (x_o0_7_l5 == x_o0_8_l5))] [(0, some ⟨0, 0, true, true, false, true, [⟨.imm, 0, 1, .cp [.sc (.int .i64 x_o0_0_0_l5), .sc (.int .i64 x_o0_0_1_l5)] 0⟩, ⟨.imm, 0, 1, .cp [.sc (.int .i64 x_o0_1_0_l5), .sc (.int .i64 x_o0_1_1_l5), .sc (.int .i64 x_o0_1_2_l5), .sc (.int .i64 x_o0_1_3_l5)] 0⟩, ⟨.imm, 0, 0, .sc (.int .i64 x_o0_2_l5)⟩, ⟨.imm, 0, 0, .sc (.int .i64 x_o0_3_l5)⟩, ⟨.sh, 0, 0, .row 1 (List.map eI x_o0_4_l5)⟩, ⟨.sh, 0, 0, .row 1 (List.map eI x_o0_5_l5)⟩, ⟨.imm, 0, 0, .sc (.int .i64 x_o0_6_l5)⟩, ⟨.imm, 0, 0, .sc (.int .i64 x_o0_7_l5)⟩, ⟨.imm, 0, 0, .sc (.int .i64 x_o0_8_l5)⟩, ⟨.imm, 0, 0, .sc (.bool x_o0_9_l5)⟩]⟩), (8, some ⟨0, 0, false, false, false, false, [⟨.sh, 0, 0, .row 1 (List.map eI x73.1)⟩]⟩)]) (sT rfl (dN z36 rfl (oMv rfl rfl)) <| sT rfl (dN z36 rfl (oNl rfl rfl rfl)) <| sT rfl (dN z36 rfl (oFA (r' := .mp 0 0 7) rfl fF68_7 rfl rfl)) <| sT rfl (dN z36 rfl (oLd (cs := [.im 0 _]) rfl tF2 rfl rfl)) <| sT rfl (dN z36 rfl (oMv rfl rfl)) <| sT rfl (dN z36 rfl (oNl rfl rfl rfl)) <| sT rfl (dN z36 rfl (oFA (r' := .mp 0 0 8) rfl fF68_8 rfl rfl)) <| sT rfl (dN z36 rfl (oLd (cs := [.im 0 _]) rfl tF2 rfl rfl)) <| sT rfl (dN z36 rfl (oBi rfl rfl rfl rfl)) <| sD (by kernel_rfl)) ?_
                    refine Unw.seq ?_
                    by_cases hc31 : x_o0_7_l5 = x_o0_8_l5
                    · rw [if_pos hc31] at h
                      refine Go.condT rfl (iEq.2 hc31) ?_
                      refine Go.seq ?_
                      refine Go.r0 c36 rfl rfl (sq z36 (oMv rfl rfl) <| sq z36 (oNl rfl rfl rfl) <| sq z36 (oFA (r' := .mp 0 0 9) rfl fF68_9 rfl rfl) <| sq z36 (oSt tF4 rfl rfl rfl (tkI tk0) rfl rfl rfl) <| nl) ?_
                      refine Unw.seq ?_
                      refine Go.ret (Unw.ret ?_)
                      cases h
                      exact ⟨rfl, (fin_of rfl rF36 rfl (by kernel_rfl))⟩
                    · rw [if_neg hc31] at h
                      refine Go.condF rfl (byF iEq hc31) ?_
                      refine Go.skip ?_
                      refine Unw.seq ?_
                      refine Go.seq ?_
                      refine Go.r0 c36 rfl rfl (sq z36 (oMv rfl rfl) <| sq z36 (oNl rfl rfl rfl) <| sq z36 (oFA (r' := .mp 0 0 7) rfl fF68_7 rfl rfl) <| sq z36 (oLd (cs := [.im 0 _]) rfl tF2 rfl rfl) <| sq z36 (oBi rfl rfl rfl rfl) <| sq z36 (oNl rfl rfl rfl) <| sq z36 (oFA (r' := .mp 0 0 7) rfl fF68_7 rfl rfl) <| sq z36 (oSt tF2 rfl rfl rfl (tkI tk0) rfl rfl rfl) <| nl) ?_
                      refine Unw.seq ?_
                      refine Go.seq ?_
                      obtain ⟨x136, hx136, h⟩ := bs h
                      refine Go.r1 c36 rfl rfl (st1 := mk [(0, .v false [.mp 0 0 0]), (1, .v false [.im 2 (.row 1 (List.map eI last_1))]), (2, iv boards_2), (6, iv (x_0.firsts.length : Int)), (7, iv f_7_l5), (8, .v false [.own 8 0 0]), (10, iv (w64 (boards_2 + x95)))] [(0, some ⟨0, 0, true, true, false, true, [⟨.imm, 0, 1, .cp [.sc (.int .i64 x_o0_0_0_l5), .sc (.int .i64 x_o0_0_1_l5)] 0⟩, ⟨.imm, 0, 1, .cp [.sc (.int .i64 x_o0_1_0_l5), .sc (.int .i64 x_o0_1_1_l5), .sc (.int .i64 x_o0_1_2_l5), .sc (.int .i64 x_o0_1_3_l5)] 0⟩, ⟨.imm, 0, 0, .sc (.int .i64 x_o0_2_l5)⟩, ⟨.imm, 0, 0, .sc (.int .i64 x_o0_3_l5)⟩, ⟨.sh, 0, 0, .row 1 (List.map eI x_o0_4_l5)⟩, ⟨.sh, 0, 0, .row 1 (List.map eI x_o0_5_l5)⟩, ⟨.imm, 0, 0, .sc (.int .i64 x_o0_6_l5)⟩, ⟨.imm, 0, 0, .sc (.int .i64 (w64 (x_o0_7_l5 + 1)))⟩, ⟨.imm, 0, 0, .sc (.int .i64 x_o0_8_l5)⟩, ⟨.imm, 0, 0, .sc (.bool x_o0_9_l5)⟩]⟩), (8, some ⟨0, 0, false, false, false, false, [⟨.sh, 0, 0, .row 1 (List.map eI x73.1)⟩]⟩)]) (by kernel_rfl) (sq z36 (oMv rfl rfl) <| sq z36 (oMv rfl rfl) <| sq z36 (oNl rfl rfl rfl) <| sq z36 (oFA (r' := .mp 0 0 4) rfl fF68_4 rfl rfl) <| sq z36 (oLd (cs := [.own 0 0 4]) rfl tF26 rfl rfl) <| sq z36 (oMv rfl rfl) <| sq z36 (oBS (es := List.map eI ([f_7_l5] : List Int)) rfl sF26 rfl (ptC rfl (fxI fx0) rfl pt0) (flat0 rfl fun _ => rfl)) <| sq z36 (oApO (en := eI) (M := ([f_7_l5] : List Int)) rfl hx136 rfl sF26 rfl rfl uF26 (.inl ⟨_, rfl⟩) rfl rfl rfl rfl (el_own rfl rfl) (flat0 rfl fun _ => rfl)) <| sq z36 (oNl rfl rfl rfl) <| sq z36 (oFA (r' := .mp 0 0 4) rfl fF68_4 rfl rfl) <| sq z36 (oSt tF26 rfl rfl rfl (tkO rfl rfl tk0) rfl rfl rfl) <| nl) ?_
                      refine Unw.seq ?_
                      refine Go.seq ?_
                      obtain ⟨x142, hx142, h⟩ := bs h
                      refine Go.r1 c36 rfl rfl (st1 := mk [(0, .v false [.mp 0 0 0]), (1, .v false [.im 2 (.row 1 (List.map eI last_1))]), (2, iv boards_2), (6, iv (x_0.firsts.length : Int)), (7, iv f_7_l5), (8, .v false [.own 8 0 0]), (10, iv (w64 (boards_2 + x95)))] [(0, some ⟨0, 0, true, true, false, true, [⟨.imm, 0, 1, .cp [.sc (.int .i64 x_o0_0_0_l5), .sc (.int .i64 x_o0_0_1_l5)] 0⟩, ⟨.imm, 0, 1, .cp [.sc (.int .i64 x_o0_1_0_l5), .sc (.int .i64 x_o0_1_1_l5), .sc (.int .i64 x_o0_1_2_l5), .sc (.int .i64 x_o0_1_3_l5)] 0⟩, ⟨.imm, 0, 0, .sc (.int .i64 x_o0_2_l5)⟩, ⟨.imm, 0, 0, .sc (.int .i64 x_o0_3_l5)⟩, ⟨.sh, 0, 0, .row 1 (List.map eI x136)⟩, ⟨.sh, 0, 0, .row 1 (List.map eI x_o0_5_l5)⟩, ⟨.imm, 0, 0, .sc (.int .i64 x_o0_6_l5)⟩, ⟨.imm, 0, 0, .sc (.int .i64 (w64 (x_o0_7_l5 + 1)))⟩, ⟨.imm, 0, 0, .sc (.int .i64 x_o0_8_l5)⟩, ⟨.imm, 0, 0, .sc (.bool x_o0_9_l5)⟩]⟩), (8, some ⟨0, 0, false, false, false, false, [⟨.sh, 0, 0, .row 1 (List.map eI x73.1)⟩]⟩)]) (by kernel_rfl) (sq z36 (oMv rfl rfl) <| sq z36 (oMv rfl rfl) <| sq z36 (oMv rfl rfl) <| sq z36 (oCa (xs := [.v false [.mp 0 0 0], .v false [.own 8 0 0], .v false [.im 0 _]]) (vs := []) (v := .tup []) (ih hx142) rfl rfl kF36_66_26_2 rfl (ppPx (ob' := ⟨0, 0, true, true, false, true, [⟨.imm, 0, 1, .cp [.sc (.int .i64 x_o0_0_0_l5), .sc (.int .i64 x_o0_0_1_l5)] 0⟩, ⟨.imm, 0, 1, .cp [.sc (.int .i64 x_o0_1_0_l5), .sc (.int .i64 x_o0_1_1_l5), .sc (.int .i64 x_o0_1_2_l5), .sc (.int .i64 x_o0_1_3_l5)] 0⟩, ⟨.imm, 0, 0, .sc (.int .i64 x_o0_2_l5)⟩, ⟨.imm, 0, 0, .sc (.int .i64 x_o0_3_l5)⟩, ⟨.sh, 0, 0, .row 1 (List.map eI x136)⟩, ⟨.sh, 0, 0, .row 1 (List.map eI x_o0_5_l5)⟩, ⟨.imm, 0, 0, .sc (.int .i64 x_o0_6_l5)⟩, ⟨.imm, 0, 0, .sc (.int .i64 (w64 (x_o0_7_l5 + 1)))⟩, ⟨.imm, 0, 0, .sc (.int .i64 x_o0_8_l5)⟩, ⟨.imm, 0, 0, .sc (.bool x_o0_9_l5)⟩]⟩) rfl rfl rfl (by kernel_rfl) (ppC rfl (ppC rfl pp0))) rfl rfl (pbPx (ob' := ⟨0, 1, true, true, false, true, [⟨.imm, 1, 1, .cp [.sc (.int .i64 x142.r.Width), .sc (.int .i64 x142.r.Length)] 0⟩, ⟨.imm, 1, 1, .cp [.sc (.int .i64 x142.k.Board), .sc (.int .i64 x142.k.Wide), .sc (.int .i64 x142.k.Least), .sc (.int .i64 x142.k.Stagger)] 0⟩, ⟨.imm, 1, 0, .sc (.int .i64 x142.n)⟩, ⟨.imm, 1, 0, .sc (.int .i64 x142.step)⟩, ⟨.sh, 1, 0, .row 1 (List.map eI x142.firsts)⟩, ⟨.sh, 1, 0, .row 1 (List.map eI x142.best)⟩, ⟨.imm, 1, 0, .sc (.int .i64 x142.least)⟩, ⟨.imm, 1, 0, .sc (.int .i64 x142.nodes)⟩, ⟨.imm, 1, 0, .sc (.int .i64 x142.budget)⟩, ⟨.imm, 1, 0, .sc (.bool x142.full)⟩]⟩) rfl rfl (by kernel_rfl) pb0) rfl rfl rfl) <| nl) ?_
                      refine Unw.seq ?_
                      obtain ⟨x149, hx149, h⟩ := bs h
                      refine Go.r1 c36 rfl rfl (st1 := mk [(0, .v false [.mp 0 0 0]), (1, .v false [.im 2 (.row 1 (List.map eI last_1))]), (2, iv boards_2), (6, iv (x_0.firsts.length : Int)), (7, iv f_7_l5)] [(0, some ⟨0, 0, true, true, false, true, [⟨.imm, 0, 1, .cp [.sc (.int .i64 x142.r.Width), .sc (.int .i64 x142.r.Length)] 0⟩, ⟨.imm, 0, 1, .cp [.sc (.int .i64 x142.k.Board), .sc (.int .i64 x142.k.Wide), .sc (.int .i64 x142.k.Least), .sc (.int .i64 x142.k.Stagger)] 0⟩, ⟨.imm, 0, 0, .sc (.int .i64 x142.n)⟩, ⟨.imm, 0, 0, .sc (.int .i64 x142.step)⟩, ⟨.sh, 0, 0, .row 1 (List.map eI x142.firsts)⟩, ⟨.sh, 0, 0, .row 1 (List.map eI x142.best)⟩, ⟨.imm, 0, 0, .sc (.int .i64 x142.least)⟩, ⟨.imm, 0, 0, .sc (.int .i64 x142.nodes)⟩, ⟨.imm, 0, 0, .sc (.int .i64 x142.budget)⟩, ⟨.imm, 0, 0, .sc (.bool x142.full)⟩]⟩)]) (by kernel_rfl) (sq z36 (oMv rfl rfl) <| sq z36 (oMv rfl rfl) <| sq z36 (oNl rfl rfl rfl) <| sq z36 (oFA (r' := .mp 0 0 4) rfl fF68_4 rfl rfl) <| sq z36 (oLd (cs := [.own 0 0 4]) rfl tF26 rfl rfl) <| sq z36 (oMv rfl rfl) <| sq z36 (oSlO rfl hx149 sF26 rfl rfl rfl bn0 (bn1 rfl) rfl rfl rfl) <| sq z36 (oNl rfl rfl rfl) <| sq z36 (oFA (r' := .mp 0 0 4) rfl fF68_4 rfl rfl) <| sq z36 (oSt tF26 rfl rfl rfl (tkSM rfl rfl tk0) rfl rfl rfl) <| nl) ?_
                      refine Unw.blk ?_
                      exact K26 _ ⟨x142.r.Width, x142.r.Length, x142.k.Board, x142.k.Wide, x142.k.Least, x142.k.Stagger, x142.n, x142.step, ((x142.firsts.take ((x_0.firsts.length : Int).toNat)).drop 0), x142.best, x142.least, x142.nodes, x142.budget, x142.full, h, (by kernel_rfl)⟩
        · rw [if_neg hc19] at h
          refine Go.condF rfl (byF (iAnd iDec (iNot Iff.rfl)) hc19) ?_
          refine Go.exit ?_
          refine Unw.seqx ?_
          refine Unw.nil ?_
          cases h
          exact ⟨rfl, (fin_of rfl rF36 rfl (by kernel_rfl))⟩
    · rintro ⟨e, st⟩ hp
      rcases o with r2 | r2
      · dsimp only at h
        obtain ⟨he, hfin⟩ := hp
        obtain rfl : e = .exit 0 := he
        cases h
        refine Unw.blkx ?_
        exact Unw.nil (Fin_end hfin)
      · dsimp only at h
        obtain ⟨he, hfin⟩ := hp
        obtain rfl : e = .ret := he
        cases h
        exact Unw.ret (Fin_ret hfin)
theorem L_spec_l30Search_run {x_0 : S_l30Search} {last_1 : (List Int)} {boards_2 : Int} {r : S_l30Search} (h : spec_l30Search_run x_0 last_1 boards_2 = some r) : FL Try.prog cfg 36 [.ptr true [(.imm, .cp [.sc (.int .i64 x_0.r.Width), .sc (.int .i64 x_0.r.Length)] 0), (.imm, .cp [.sc (.int .i64 x_0.k.Board), .sc (.int .i64 x_0.k.Wide), .sc (.int .i64 x_0.k.Least), .sc (.int .i64 x_0.k.Stagger)] 0), (.imm, .sc (.int .i64 x_0.n)), (.imm, .sc (.int .i64 x_0.step)), (.sh, .row 1 (List.map eI x_0.firsts)), (.sh, .row 1 (List.map eI x_0.best)), (.imm, .sc (.int .i64 x_0.least)), (.imm, .sc (.int .i64 x_0.nodes)), (.imm, .sc (.int .i64 x_0.budget)), (.imm, .sc (.bool x_0.full))], .im 2 false [.row 1 (List.map eI last_1)], .im 2 false [.sc (.int .i64 boards_2)]] = some ([], [.ptr true [(.imm, .cp [.sc (.int .i64 r.r.Width), .sc (.int .i64 r.r.Length)] 0), (.imm, .cp [.sc (.int .i64 r.k.Board), .sc (.int .i64 r.k.Wide), .sc (.int .i64 r.k.Least), .sc (.int .i64 r.k.Stagger)] 0), (.imm, .sc (.int .i64 r.n)), (.imm, .sc (.int .i64 r.step)), (.sh, .row 1 (List.map eI r.firsts)), (.sh, .row 1 (List.map eI r.best)), (.imm, .sc (.int .i64 r.least)), (.imm, .sc (.int .i64 r.nodes)), (.imm, .sc (.int .i64 r.budget)), (.imm, .sc (.bool r.full))]]) := by
  unfold spec_l30Search_run at h
  obtain ⟨n, hn⟩ := fixO_iter h
  clear h
  induction n generalizing x_0 last_1 boards_2 r with
  | zero => cases hn
  | succ n ihn => exact L_spec_l30Search_run_F (self := iterO _ n) (fun h => ihn h) hn
theorem L_spec_BestFloor {r_0 : S_Room} {k_1 : S_Stock} {step_2 : Int} {budget_3 : Int} {r : ((List Int) × Int × Int)} (h : spec_BestFloor r_0 k_1 step_2 budget_3 = some r) : FL Try.prog cfg 19 [.im 2 true [.sc (.int .i64 r_0.Width), .sc (.int .i64 r_0.Length)], .im 2 true [.sc (.int .i64 k_1.Board), .sc (.int .i64 k_1.Wide), .sc (.int .i64 k_1.Least), .sc (.int .i64 k_1.Stagger)], .im 2 false [.sc (.int .i64 step_2)], .im 2 false [.sc (.int .i64 budget_3)]] = some ([(false, [.ow 0 1 (List.map eI r.1)]), (false, [.im 0 (.sc (.int .i64 r.2.1))]), (false, [.im 0 (.sc (.int .i64 r.2.2))])], []) := by
  unfold spec_BestFloor at h
  refine FL_goS (A := [(0, .v true [.im 2 (.sc (.int .i64 r_0.Width)), .im 2 (.sc (.int .i64 r_0.Length))]), (1, .v true [.im 2 (.sc (.int .i64 k_1.Board)), .im 2 (.sc (.int .i64 k_1.Wide)), .im 2 (.sc (.int .i64 k_1.Least)), .im 2 (.sc (.int .i64 k_1.Stagger))]), (2, .v false [.im 2 (.sc (.int .i64 step_2))]), (3, .v false [.im 2 (.sc (.int .i64 budget_3))])]) (B := [(0, none), (1, none), (2, none), (3, none)]) (nt := 53) rfl rfl Try.func19 rfl rfl rfl rfl ?_
  refine Go.seq ?_
  refine Go.r0 c19 rfl rfl (sq z19 (oBx rfl tF29 rfl (tkI (tkI tk0))) <| sq z19 (oBx rfl tF31 rfl (tkI (tkI (tkI (tkI tk0))))) <| sq z19 (oAsN rfl rfl eF26) <| sq z19 (oAsI rfl rfl) <| sq z19 (oAsI rfl rfl) <| nl) ?_
  refine Unw.seq ?_
  refine Go.seq ?_
  refine Go.seq ?_
  obtain ⟨x13, hx13, h⟩ := bs h
  refine Go.r0 c19 rfl rfl (sq z19 (oCa (xs := [.v false [.mp 4 0 0], .v false [.mp 5 0 0]]) (vs := [(false, [.im 0 _])]) (v := .v false [.im 0 _]) (L_spec_l30Ok hx13) rfl rfl kF21_44_45 rfl (ppC rfl (ppC rfl pp0)) rfl rfl pb0 rfl rfl rfl) <| sq z19 (oUn rfl rfl rfl) <| nl) ?_
  refine Unw.seq ?_
  by_cases hc1 : x13 = true
  · rw [if_pos hc1] at h
    refine Go.condF rfl (nF (Iff.rfl.2 hc1)) ?_
    refine Go.skip ?_
    refine Unw.seq ?_
    refine Go.seq ?_
    obtain ⟨x15, hx15, h⟩ := bs h
    refine Go.r0 c19 rfl rfl (sq z19 (oCa (xs := [.v false [.mp 4 0 0], .v false [.mp 5 0 0]]) (vs := [(false, [.im 0 _])]) (v := .v false [.im 0 _]) (L_spec_l30Rows hx15) rfl rfl kF27_44_45 rfl (ppC rfl (ppC rfl pp0)) rfl rfl pb0 rfl rfl rfl) <| sq z19 (oAsI rfl rfl) <| nl) ?_
    refine Unw.seq ?_
    refine Go.seq ?_
    refine Go.seq ?_
    refine Go.r0 c19 rfl rfl (sq z19 (oMv rfl rfl) <| sq z19 (oBi rfl rfl rfl rfl) <| nl) ?_
    refine Unw.seq ?_
    by_cases hc2 : x15 > 40
    · rw [if_pos hc2] at h
      refine Go.condT rfl (iDec.2 hc2) ?_
      refine Go.seq ?_
      refine Go.r0 c19 rfl rfl (sq z19 (oAsN rfl rfl eF26) <| sq z19 (oAsI rfl rfl) <| sq z19 (oAsI rfl rfl) <| nl) ?_
      refine Unw.seq ?_
      refine Go.ret (Unw.ret ?_)
      cases h
      exact Fin_ret (fin_of rfl rF19 rfl (by kernel_rfl))
    · rw [if_neg hc2] at h
      refine Go.condF rfl (byF iDec hc2) ?_
      refine Go.skip ?_
      refine Unw.seq ?_
      refine Go.seq ?_
      refine Go.seq ?_
      obtain ⟨x21, hx21, h⟩ := bs h
      obtain ⟨t_27_m6, hm7, h⟩ := bs h
      refine Go.rX c19 rfl rfl rfl (mk [(2, iv step_2), (3, iv budget_3), (4, .v false [.mp 4 0 0]), (5, .v false [.mp 5 0 0]), (11, iv x15), (27, bv t_27_m6)] [(4, some ⟨0, 0, false, true, false, true, [⟨.imm, 0, 0, .sc (.int .i64 r_0.Width)⟩, ⟨.imm, 0, 0, .sc (.int .i64 r_0.Length)⟩]⟩), (5, some ⟨0, 0, false, true, false, true, [⟨.imm, 0, 0, .sc (.int .i64 k_1.Board)⟩, ⟨.imm, 0, 0, .sc (.int .i64 k_1.Wide)⟩, ⟨.imm, 0, 0, .sc (.int .i64 k_1.Least)⟩, ⟨.imm, 0, 0, .sc (.int .i64 k_1.Stagger)⟩]⟩)]) ?_ ?_
      · by_cases hc3 : x21 = true
        · rw [if_pos hc3] at hm7
          obtain ⟨x25, hx25, hm7⟩ := bs hm7
          cases hm7
          exact ⟨_, sq z19 (oMv rfl rfl) <| sq z19 (oFA (r' := .mp 5 0 0) rfl fF31_0 rfl rfl) <| sq z19 (oLd (cs := [.im 0 _]) rfl tF2 rfl rfl) <| sq z19 (oCa (xs := [.v false [.im 2 _], .v false [.im 0 _], .v false [.im 0 _]]) (vs := [(false, [.im 0 _])]) (v := .v false [.im 0 _]) (L_spec_l00In hx21) rfl rfl kF35_2_2_2 rfl (ppC rfl (ppC rfl (ppC rfl pp0))) rfl rfl pb0 rfl rfl rfl) <| sq z19 (oUn rfl rfl rfl) <| sq z19 (oMv rfl rfl) <| sgT z19 rfl rfl (nF (Iff.rfl.2 hc3)) (oMv rfl rfl) <| sgT z19 rfl rfl (nF (Iff.rfl.2 hc3)) (oCa (xs := [.v false [.im 2 _], .v false [.im 0 _], .v false [.im 0 _]]) (vs := [(false, [.im 0 _])]) (v := .v false [.im 0 _]) (L_spec_l00In hx25) rfl rfl kF35_2_2_2 rfl (ppC rfl (ppC rfl (ppC rfl pp0))) rfl rfl pb0 rfl rfl rfl) <| sgT z19 rfl rfl (nF (Iff.rfl.2 hc3)) (oUn rfl rfl rfl) <| sq z19 (oPkF rfl rfl (nF (Iff.rfl.2 hc3)) rfl) <| nl, (by kernel_rfl)⟩
        · rw [if_neg hc3] at hm7
          cases hm7
          exact ⟨_, sq z19 (oMv rfl rfl) <| sq z19 (oFA (r' := .mp 5 0 0) rfl fF31_0 rfl rfl) <| sq z19 (oLd (cs := [.im 0 _]) rfl tF2 rfl rfl) <| sq z19 (oCa (xs := [.v false [.im 2 _], .v false [.im 0 _], .v false [.im 0 _]]) (vs := [(false, [.im 0 _])]) (v := .v false [.im 0 _]) (L_spec_l00In hx21) rfl rfl kF35_2_2_2 rfl (ppC rfl (ppC rfl (ppC rfl pp0))) rfl rfl pb0 rfl rfl rfl) <| sq z19 (oUn rfl rfl rfl) <| sq z19 (oMv rfl rfl) <| sgF rfl rfl (nT (byF Iff.rfl hc3)) rfl <| sgF rfl rfl (nT (byF Iff.rfl hc3)) rfl <| sgF rfl rfl (nT (byF Iff.rfl hc3)) rfl <| sq z19 (oPkT rfl rfl (nT (byF Iff.rfl hc3)) rfl) <| nl, (by kernel_rfl)⟩
      · refine Unw.seq ?_
        by_cases hc4 : t_27_m6 = true
        · rw [if_pos hc4] at h
          refine Go.condT rfl (Iff.rfl.2 hc4) ?_
          refine Go.seq ?_
          refine Go.r0 c19 rfl rfl (sq z19 (oAsN rfl rfl eF26) <| sq z19 (oAsI rfl rfl) <| sq z19 (oAsI rfl rfl) <| nl) ?_
          refine Unw.seq ?_
          refine Go.ret (Unw.ret ?_)
          cases h
          exact Fin_ret (fin_of rfl rF19 rfl (by kernel_rfl))
        · rw [if_neg hc4] at h
          refine Go.condF rfl (byF Iff.rfl hc4) ?_
          refine Go.skip ?_
          refine Unw.seq ?_
          refine Go.seq ?_
          refine Go.r0 c19 rfl rfl (sq z19 (oMv rfl rfl) <| sq z19 (oMv rfl rfl) <| sq z19 (oMv rfl rfl) <| sq z19 (oBu (cs := [.mp 4 0 0, .mp 5 0 0, .im 0 _, .im 0 _, .nil, .nil, .im 0 _, .im 0 _, .im 0 _, .im 0 _]) rfl bF68 rfl) <| sq z19 (oBx rfl tF68 rfl (tkP rfl rfl rfl (tkP rfl rfl rfl (tkI (tkI (tkN (tkN (tkI (tkI (tkI (tkI tk0))))))))))) <| sq z19 (oAsP rfl rfl) <| nl) ?_
          refine Unw.seq ?_
          refine Go.seq ?_
          obtain ⟨x35, hx35, h⟩ := bs h
          refine Go.r1 c19 rfl rfl (st1 := mk [(12, .v false [.mp 32 0 0])] [(32, some ⟨0, 0, false, true, false, true, [⟨.imm, 0, 0, .cp [.sc (.int .i64 r_0.Width), .sc (.int .i64 r_0.Length)] 0⟩, ⟨.imm, 0, 0, .cp [.sc (.int .i64 k_1.Board), .sc (.int .i64 k_1.Wide), .sc (.int .i64 k_1.Least), .sc (.int .i64 k_1.Stagger)] 0⟩, ⟨.imm, 0, 0, .sc (.int .i64 x15)⟩, ⟨.imm, 0, 0, .sc (.int .i64 step_2)⟩, ⟨.sh, 0, 0, .row 1 (List.map eI ([] : List Int))⟩, ⟨.sh, 0, 0, .row 1 (List.map eI ([] : List Int))⟩, ⟨.imm, 0, 0, .sc (.int .i64 (-1))⟩, ⟨.imm, 0, 0, .sc (.int .i64 0)⟩, ⟨.imm, 0, 0, .sc (.int .i64 budget_3)⟩, ⟨.imm, 0, 0, .sc (.bool false)⟩]⟩)]) (by kernel_rfl) (sq z19 (oMv rfl rfl) <| sq z19 (oBS (es := List.map eI ([] : List Int)) rfl sF26 rfl pt0 (flat0 rfl fun _ => rfl)) <| sq z19 (oCa (xs := [.v false [.mp 32 0 0], .v false [.own 34 0 0], .v false [.im 0 _]]) (vs := []) (v := .tup []) (L_spec_l30Search_run hx35) rfl rfl kF36_66_26_2 rfl (ppPx (ob' := ⟨0, 0, false, true, false, true, [⟨.imm, 0, 0, .cp [.sc (.int .i64 r_0.Width), .sc (.int .i64 r_0.Length)] 0⟩, ⟨.imm, 0, 0, .cp [.sc (.int .i64 k_1.Board), .sc (.int .i64 k_1.Wide), .sc (.int .i64 k_1.Least), .sc (.int .i64 k_1.Stagger)] 0⟩, ⟨.imm, 0, 0, .sc (.int .i64 x15)⟩, ⟨.imm, 0, 0, .sc (.int .i64 step_2)⟩, ⟨.sh, 0, 0, .row 1 (List.map eI ([] : List Int))⟩, ⟨.sh, 0, 0, .row 1 (List.map eI ([] : List Int))⟩, ⟨.imm, 0, 0, .sc (.int .i64 (-1))⟩, ⟨.imm, 0, 0, .sc (.int .i64 0)⟩, ⟨.imm, 0, 0, .sc (.int .i64 budget_3)⟩, ⟨.imm, 0, 0, .sc (.bool false)⟩]⟩) rfl rfl rfl (by kernel_rfl) (ppC rfl (ppC rfl pp0))) rfl rfl (pbPx (ob' := ⟨0, 1, false, true, false, true, [⟨.imm, 1, 0, .cp [.sc (.int .i64 x35.r.Width), .sc (.int .i64 x35.r.Length)] 0⟩, ⟨.imm, 1, 0, .cp [.sc (.int .i64 x35.k.Board), .sc (.int .i64 x35.k.Wide), .sc (.int .i64 x35.k.Least), .sc (.int .i64 x35.k.Stagger)] 0⟩, ⟨.imm, 1, 0, .sc (.int .i64 x35.n)⟩, ⟨.imm, 1, 0, .sc (.int .i64 x35.step)⟩, ⟨.sh, 1, 0, .row 1 (List.map eI x35.firsts)⟩, ⟨.sh, 1, 0, .row 1 (List.map eI x35.best)⟩, ⟨.imm, 1, 0, .sc (.int .i64 x35.least)⟩, ⟨.imm, 1, 0, .sc (.int .i64 x35.nodes)⟩, ⟨.imm, 1, 0, .sc (.int .i64 x35.budget)⟩, ⟨.imm, 1, 0, .sc (.bool x35.full)⟩]⟩) rfl rfl (by kernel_rfl) pb0) rfl rfl rfl) <| nl) ?_
          refine Unw.seq ?_
          refine Go.seq ?_
          refine Go.seq ?_
          refine Go.r1 c19 rfl rfl (st1 := mk [(12, .v false [.mp 32 0 0])] [(32, some ⟨0, 0, false, true, false, true, [⟨.imm, 0, 0, .cp [.sc (.int .i64 x35.r.Width), .sc (.int .i64 x35.r.Length)] 0⟩, ⟨.imm, 0, 0, .cp [.sc (.int .i64 x35.k.Board), .sc (.int .i64 x35.k.Wide), .sc (.int .i64 x35.k.Least), .sc (.int .i64 x35.k.Stagger)] 0⟩, ⟨.imm, 0, 0, .sc (.int .i64 x35.n)⟩, ⟨.imm, 0, 0, .sc (.int .i64 x35.step)⟩, ⟨.sh, 0, 0, .row 1 (List.map eI x35.firsts)⟩, ⟨.sh, 0, 0, .row 1 (List.map eI x35.best)⟩, ⟨.imm, 0, 0, .sc (.int .i64 x35.least)⟩, ⟨.imm, 0, 0, .sc (.int .i64 x35.nodes)⟩, ⟨.imm, 0, 0, .sc (.int .i64 x35.budget)⟩, ⟨.imm, 0, 0, .sc (.bool x35.full)⟩]⟩)]) (by kernel_rfl) (sq z19 (oMv rfl rfl) <| sq z19 (oNl rfl rfl rfl) <| sq z19 (oFA (r' := .mp 32 0 9) rfl fF68_9 rfl rfl) <| sq z19 (oLd (cs := [.im 0 _]) rfl tF4 rfl rfl) <| nl) ?_
          refine Unw.seq ?_
          by_cases hc5 : x35.full = true
          · rw [if_pos hc5] at h
            refine Go.condT rfl (Iff.rfl.2 hc5) ?_
            refine Go.seq ?_
            refine Go.r0 c19 rfl rfl (sq z19 (oAsN rfl rfl eF26) <| sq z19 (oAsI rfl rfl) <| sq z19 (oAsI rfl rfl) <| nl) ?_
            refine Unw.seq ?_
            refine Go.ret (Unw.ret ?_)
            cases h
            exact Fin_ret (fin_of rfl rF19 rfl (by kernel_rfl))
          · rw [if_neg hc5] at h
            refine Go.condF rfl (byF Iff.rfl hc5) ?_
            refine Go.skip ?_
            refine Unw.seq ?_
            refine Go.seq ?_
            refine Go.seq ?_
            refine Go.r0 c19 rfl rfl (sq z19 (oMv rfl rfl) <| sq z19 (oNl rfl rfl rfl) <| sq z19 (oFA (r' := .mp 32 0 6) rfl fF68_6 rfl rfl) <| sq z19 (oLd (cs := [.im 0 _]) rfl tF2 rfl rfl) <| sq z19 (oBi rfl rfl rfl rfl) <| nl) ?_
            refine Unw.seq ?_
            by_cases hc6 : x35.least < 0
            · rw [if_pos hc6] at h
              refine Go.condT rfl (iDec.2 hc6) ?_
              refine Go.seq ?_
              refine Go.r0 c19 rfl rfl (sq z19 (oAsN rfl rfl eF26) <| sq z19 (oAsI rfl rfl) <| sq z19 (oAsI rfl rfl) <| nl) ?_
              refine Unw.seq ?_
              refine Go.ret (Unw.ret ?_)
              cases h
              exact Fin_ret (fin_of rfl rF19 rfl (by kernel_rfl))
            · rw [if_neg hc6] at h
              refine Go.condF rfl (byF iDec hc6) ?_
              refine Go.skip ?_
              refine Unw.seq ?_
              refine Go.seq ?_
              refine Go.dr c19 rfl rfl rfl rfl (mk [(8, .v false [.own 8 0 0]), (9, iv x35.least), (10, iv 0)] [(8, some ⟨0, 0, false, false, false, false, [⟨.sh, 0, 0, .row 1 (List.map eI x35.best)⟩]⟩)]) (sT rfl (dN z19 rfl (oMv rfl rfl)) <| sT rfl (dN z19 rfl (oNl rfl rfl rfl)) <| sT rfl (dN z19 rfl (oFA (r' := .mp 32 0 5) rfl fF68_5 rfl rfl)) <| sT rfl (dN z19 rfl (oLd (cs := [.own 32 0 5]) rfl tF26 rfl rfl)) <| sT rfl (dN z19 rfl (oMv rfl rfl)) <| sF (dN z19 rfl (oNl rfl rfl rfl)) (sF (dN z19 rfl (oFA (r' := .mp 32 0 6) rfl fF68_6 rfl rfl)) (sF (dN z19 rfl (oLd (cs := [.im 0 _]) rfl tF2 rfl rfl)) (sS (dN z19 rfl (oAsO rfl rfl rfl rfl rfl)) (sS (dN z19 rfl (oAsI rfl rfl)) (sS (dN z19 rfl (oAsI rfl rfl)) (sD (by kernel_rfl))))) (sS (dN z19 rfl (oAsO rfl rfl rfl rfl rfl)) (sT rfl (dN z19 rfl (oLd (cs := [.im 0 _]) rfl tF2 rfl rfl)) <| sS (dN z19 rfl (oAsI rfl rfl)) (sS (dN z19 rfl (oAsI rfl rfl)) (sD (by kernel_rfl)))))) (sS (dN z19 rfl (oAsO rfl rfl rfl rfl rfl)) (sT rfl (dN z19 rfl (oFA (r' := .mp 32 0 6) rfl fF68_6 rfl rfl)) <| sT rfl (dN z19 rfl (oLd (cs := [.im 0 _]) rfl tF2 rfl rfl)) <| sS (dN z19 rfl (oAsI rfl rfl)) (sS (dN z19 rfl (oAsI rfl rfl)) (sD (by kernel_rfl)))))) (sS (dN z19 rfl (oAsO rfl rfl rfl rfl rfl)) (sT rfl (dN z19 rfl (oNl rfl rfl rfl)) <| sT rfl (dN z19 rfl (oFA (r' := .mp 32 0 6) rfl fF68_6 rfl rfl)) <| sT rfl (dN z19 rfl (oLd (cs := [.im 0 _]) rfl tF2 rfl rfl)) <| sS (dN z19 rfl (oAsI rfl rfl)) (sS (dN z19 rfl (oAsI rfl rfl)) (sD (by kernel_rfl)))))) ?_
              refine Unw.seq ?_
              refine Go.ret (Unw.ret ?_)
              cases h
              exact Fin_ret (fin_of rfl rF19 rfl (by kernel_rfl))
  · rw [if_neg hc1] at h
    refine Go.condT rfl (nT (byF Iff.rfl hc1)) ?_
    refine Go.seq ?_
    refine Go.r0 c19 rfl rfl (sq z19 (oAsN rfl rfl eF26) <| sq z19 (oAsI rfl rfl) <| sq z19 (oAsI rfl rfl) <| nl) ?_
    refine Unw.seq ?_
    refine Go.ret (Unw.ret ?_)
    cases h
    exact Fin_ret (fin_of rfl rF19 rfl (by kernel_rfl))
theorem L_impl_within {n_0 : Int} {low_1 : Int} {high_2 : Int} {r : Bool} (h : impl_within n_0 low_1 high_2 = some r) : FL Try.prog cfg 37 [.im 2 false [.sc (.int .i64 n_0)], .im 2 false [.sc (.int .i64 low_1)], .im 2 false [.sc (.int .i64 high_2)]] = some ([(false, [.im 0 (.sc (.bool r))])], []) := by
  unfold impl_within at h
  refine FL_goS (A := [(0, .v false [.im 2 (.sc (.int .i64 n_0))]), (1, .v false [.im 2 (.sc (.int .i64 low_1))]), (2, .v false [.im 2 (.sc (.int .i64 high_2))])]) (B := [(0, none), (1, none), (2, none)]) (nt := 15) rfl rfl Try.func37 rfl rfl rfl rfl ?_
  refine Go.seq ?_
  refine Go.r0 c37 rfl rfl (sq z37 (oAsI rfl rfl) <| nl) ?_
  refine Unw.seq ?_
  refine Go.seq ?_
  refine Go.rX c37 rfl rfl rfl (mk [(6, bv ((decide (n_0 ≥ low_1)) && (decide (n_0 ≤ high_2))))] []) ?_ ?_
  · by_cases hc1 : n_0 ≥ low_1
    · exact ⟨_, sq z37 (oMv rfl rfl) <| sq z37 (oMv rfl rfl) <| sq z37 (oBi rfl rfl rfl rfl) <| sq z37 (oMv rfl rfl) <| sgT z37 rfl rfl (iDec.2 hc1) (oMv rfl rfl) <| sgT z37 rfl rfl (iDec.2 hc1) (oMv rfl rfl) <| sgT z37 rfl rfl (iDec.2 hc1) (oBi rfl rfl rfl rfl) <| sq z37 (oPkT rfl rfl (iDec.2 hc1) rfl) <| sq z37 (oAsI rfl rfl) <| nl, (Eq.trans (b := (fun t_6_m1 : Bool => mk [(6, bv t_6_m1)] []) (decide (n_0 ≤ high_2))) (by kernel_rfl) (congrArg (fun t_6_m1 : Bool => mk [(6, bv t_6_m1)] []) (by first | rfl | simp [(iDec.2 hc1)])))⟩
    · exact ⟨_, sq z37 (oMv rfl rfl) <| sq z37 (oMv rfl rfl) <| sq z37 (oBi rfl rfl rfl rfl) <| sq z37 (oMv rfl rfl) <| sgF rfl rfl (byF iDec hc1) rfl <| sgF rfl rfl (byF iDec hc1) rfl <| sgF rfl rfl (byF iDec hc1) rfl <| sq z37 (oPkF rfl rfl (byF iDec hc1) rfl) <| sq z37 (oAsI rfl rfl) <| nl, (Eq.trans (b := (fun t_6_m1 : Bool => mk [(6, bv t_6_m1)] []) false) (by kernel_rfl) (congrArg (fun t_6_m1 : Bool => mk [(6, bv t_6_m1)] []) (by first | rfl | simp [(byF iDec hc1)])))⟩
  · refine Unw.seq ?_
    refine Go.ret (Unw.ret ?_)
    cases h
    exact Fin_ret (fin_of rfl rF37 rfl (by kernel_rfl))
theorem L_impl_ValidRoom {r_0 : S_Room} {r : Bool} (h : impl_ValidRoom r_0 = some r) : FL Try.prog cfg 42 [.im 2 true [.sc (.int .i64 r_0.Width), .sc (.int .i64 r_0.Length)]] = some ([(false, [.im 0 (.sc (.bool r))])], []) := by
  unfold impl_ValidRoom at h
  refine FL_goS (A := [(0, .v true [.im 2 (.sc (.int .i64 r_0.Width)), .im 2 (.sc (.int .i64 r_0.Length))])]) (B := [(0, none)]) (nt := 11) rfl rfl Try.func42 rfl rfl rfl rfl ?_
  refine Go.seq ?_
  refine Go.r0 c42 rfl rfl (sq z42 (oBx rfl tF29 rfl (tkI (tkI tk0))) <| sq z42 (oAsI rfl rfl) <| nl) ?_
  refine Unw.seq ?_
  refine Go.seq ?_
  obtain ⟨x5, hx5, h⟩ := bs h
  obtain ⟨t_2_m1, hm2, h⟩ := bs h
  refine Go.rX c42 rfl rfl rfl (mk [(2, bv t_2_m1)] []) ?_ ?_
  · by_cases hc1 : x5 = true
    · rw [if_pos hc1] at hm2
      obtain ⟨x9, hx9, hm2⟩ := bs hm2
      cases hm2
      exact ⟨_, sq z42 (oFA (r' := .mp 1 0 0) rfl fF29_0 rfl rfl) <| sq z42 (oLd (cs := [.im 0 _]) rfl tF2 rfl rfl) <| sq z42 (oCa (xs := [.v false [.im 0 _], .v false [.im 0 _], .v false [.im 0 _]]) (vs := [(false, [.im 0 _])]) (v := .v false [.im 0 _]) (L_impl_within hx5) rfl rfl kF37_2_2_2 rfl (ppC rfl (ppC rfl (ppC rfl pp0))) rfl rfl pb0 rfl rfl rfl) <| sq z42 (oMv rfl rfl) <| sgT z42 rfl rfl (Iff.rfl.2 hc1) (oFA (r' := .mp 1 0 1) rfl fF29_1 rfl rfl) <| sgT z42 rfl rfl (Iff.rfl.2 hc1) (oLd (cs := [.im 0 _]) rfl tF2 rfl rfl) <| sgT z42 rfl rfl (Iff.rfl.2 hc1) (oCa (xs := [.v false [.im 0 _], .v false [.im 0 _], .v false [.im 0 _]]) (vs := [(false, [.im 0 _])]) (v := .v false [.im 0 _]) (L_impl_within hx9) rfl rfl kF37_2_2_2 rfl (ppC rfl (ppC rfl (ppC rfl pp0))) rfl rfl pb0 rfl rfl rfl) <| sq z42 (oPkT rfl rfl (Iff.rfl.2 hc1) rfl) <| sq z42 (oAsI rfl rfl) <| nl, (by kernel_rfl)⟩
    · rw [if_neg hc1] at hm2
      cases hm2
      exact ⟨_, sq z42 (oFA (r' := .mp 1 0 0) rfl fF29_0 rfl rfl) <| sq z42 (oLd (cs := [.im 0 _]) rfl tF2 rfl rfl) <| sq z42 (oCa (xs := [.v false [.im 0 _], .v false [.im 0 _], .v false [.im 0 _]]) (vs := [(false, [.im 0 _])]) (v := .v false [.im 0 _]) (L_impl_within hx5) rfl rfl kF37_2_2_2 rfl (ppC rfl (ppC rfl (ppC rfl pp0))) rfl rfl pb0 rfl rfl rfl) <| sq z42 (oMv rfl rfl) <| sgF rfl rfl (byF Iff.rfl hc1) rfl <| sgF rfl rfl (byF Iff.rfl hc1) rfl <| sgF rfl rfl (byF Iff.rfl hc1) rfl <| sq z42 (oPkF rfl rfl (byF Iff.rfl hc1) rfl) <| sq z42 (oAsI rfl rfl) <| nl, (by kernel_rfl)⟩
  · refine Unw.seq ?_
    refine Go.ret (Unw.ret ?_)
    cases h
    exact Fin_ret (fin_of rfl rF42 rfl (by kernel_rfl))
theorem L_impl_ValidStock {k_0 : S_Stock} {r : Bool} (h : impl_ValidStock k_0 = some r) : FL Try.prog cfg 43 [.im 2 true [.sc (.int .i64 k_0.Board), .sc (.int .i64 k_0.Wide), .sc (.int .i64 k_0.Least), .sc (.int .i64 k_0.Stagger)]] = some ([(false, [.im 0 (.sc (.bool r))])], []) := by
  unfold impl_ValidStock at h
  refine FL_goS (A := [(0, .v true [.im 2 (.sc (.int .i64 k_0.Board)), .im 2 (.sc (.int .i64 k_0.Wide)), .im 2 (.sc (.int .i64 k_0.Least)), .im 2 (.sc (.int .i64 k_0.Stagger))])]) (B := [(0, none)]) (nt := 26) rfl rfl Try.func43 rfl rfl rfl rfl ?_
  refine Go.seq ?_
  refine Go.r0 c43 rfl rfl (sq z43 (oBx rfl tF31 rfl (tkI (tkI (tkI (tkI tk0))))) <| sq z43 (oAsI rfl rfl) <| nl) ?_
  refine Unw.seq ?_
  refine Go.seq ?_
  obtain ⟨x5, hx5, h⟩ := bs h
  obtain ⟨t_2_m1, hm4, h⟩ := bs h
  refine Go.rX c43 rfl rfl rfl (mk [(2, bv t_2_m1)] []) ?_ ?_
  · by_cases hc1 : x5 = true
    · rw [if_pos hc1] at hm4
      obtain ⟨x9, hx9, hm4⟩ := bs hm4
      by_cases hc2 : x9 = true
      · rw [if_pos hc2] at hm4
        obtain ⟨x16, hx16, hm4⟩ := bs hm4
        by_cases hc3 : x16 = true
        · rw [if_pos hc3] at hm4
          obtain ⟨x23, hx23, hm4⟩ := bs hm4
          obtain ⟨x24, hx24, hm4⟩ := bs hm4
          cases hm4
          exact ⟨_, sq z43 (oFA (r' := .mp 1 0 0) rfl fF31_0 rfl rfl) <| sq z43 (oLd (cs := [.im 0 _]) rfl tF2 rfl rfl) <| sq z43 (oCa (xs := [.v false [.im 0 _], .v false [.im 0 _], .v false [.im 0 _]]) (vs := [(false, [.im 0 _])]) (v := .v false [.im 0 _]) (L_impl_within hx5) rfl rfl kF37_2_2_2 rfl (ppC rfl (ppC rfl (ppC rfl pp0))) rfl rfl pb0 rfl rfl rfl) <| sq z43 (oMv rfl rfl) <| sgT z43 rfl rfl (Iff.rfl.2 hc1) (oFA (r' := .mp 1 0 1) rfl fF31_1 rfl rfl) <| sgT z43 rfl rfl (Iff.rfl.2 hc1) (oLd (cs := [.im 0 _]) rfl tF2 rfl rfl) <| sgT z43 rfl rfl (Iff.rfl.2 hc1) (oCa (xs := [.v false [.im 0 _], .v false [.im 0 _], .v false [.im 0 _]]) (vs := [(false, [.im 0 _])]) (v := .v false [.im 0 _]) (L_impl_within hx9) rfl rfl kF37_2_2_2 rfl (ppC rfl (ppC rfl (ppC rfl pp0))) rfl rfl pb0 rfl rfl rfl) <| sq z43 (oPkT rfl rfl (Iff.rfl.2 hc1) rfl) <| sq z43 (oMv rfl rfl) <| sgT z43 rfl rfl (Iff.rfl.2 hc2) (oFA (r' := .mp 1 0 2) rfl fF31_2 rfl rfl) <| sgT z43 rfl rfl (Iff.rfl.2 hc2) (oLd (cs := [.im 0 _]) rfl tF2 rfl rfl) <| sgT z43 rfl rfl (Iff.rfl.2 hc2) (oFA (r' := .mp 1 0 0) rfl fF31_0 rfl rfl) <| sgT z43 rfl rfl (Iff.rfl.2 hc2) (oLd (cs := [.im 0 _]) rfl tF2 rfl rfl) <| sgT z43 rfl rfl (Iff.rfl.2 hc2) (oCa (xs := [.v false [.im 0 _], .v false [.im 0 _], .v false [.im 0 _]]) (vs := [(false, [.im 0 _])]) (v := .v false [.im 0 _]) (L_impl_within hx16) rfl rfl kF37_2_2_2 rfl (ppC rfl (ppC rfl (ppC rfl pp0))) rfl rfl pb0 rfl rfl rfl) <| sq z43 (oPkT rfl rfl (Iff.rfl.2 hc2) rfl) <| sq z43 (oMv rfl rfl) <| sgT z43 rfl rfl (Iff.rfl.2 hc3) (oFA (r' := .mp 1 0 3) rfl fF31_3 rfl rfl) <| sgT z43 rfl rfl (Iff.rfl.2 hc3) (oLd (cs := [.im 0 _]) rfl tF2 rfl rfl) <| sgT z43 rfl rfl (Iff.rfl.2 hc3) (oFA (r' := .mp 1 0 0) rfl fF31_0 rfl rfl) <| sgT z43 rfl rfl (Iff.rfl.2 hc3) (oLd (cs := [.im 0 _]) rfl tF2 rfl rfl) <| sgT z43 rfl rfl (Iff.rfl.2 hc3) (oQuo rfl hx23 rfl rfl) <| sgT z43 rfl rfl (Iff.rfl.2 hc3) (oCa (xs := [.v false [.im 0 _], .v false [.im 0 _], .v false [.im 0 _]]) (vs := [(false, [.im 0 _])]) (v := .v false [.im 0 _]) (L_impl_within hx24) rfl rfl kF37_2_2_2 rfl (ppC rfl (ppC rfl (ppC rfl pp0))) rfl rfl pb0 rfl rfl rfl) <| sq z43 (oPkT rfl rfl (Iff.rfl.2 hc3) rfl) <| sq z43 (oAsI rfl rfl) <| nl, (by kernel_rfl)⟩
        · rw [if_neg hc3] at hm4
          cases hm4
          exact ⟨_, sq z43 (oFA (r' := .mp 1 0 0) rfl fF31_0 rfl rfl) <| sq z43 (oLd (cs := [.im 0 _]) rfl tF2 rfl rfl) <| sq z43 (oCa (xs := [.v false [.im 0 _], .v false [.im 0 _], .v false [.im 0 _]]) (vs := [(false, [.im 0 _])]) (v := .v false [.im 0 _]) (L_impl_within hx5) rfl rfl kF37_2_2_2 rfl (ppC rfl (ppC rfl (ppC rfl pp0))) rfl rfl pb0 rfl rfl rfl) <| sq z43 (oMv rfl rfl) <| sgT z43 rfl rfl (Iff.rfl.2 hc1) (oFA (r' := .mp 1 0 1) rfl fF31_1 rfl rfl) <| sgT z43 rfl rfl (Iff.rfl.2 hc1) (oLd (cs := [.im 0 _]) rfl tF2 rfl rfl) <| sgT z43 rfl rfl (Iff.rfl.2 hc1) (oCa (xs := [.v false [.im 0 _], .v false [.im 0 _], .v false [.im 0 _]]) (vs := [(false, [.im 0 _])]) (v := .v false [.im 0 _]) (L_impl_within hx9) rfl rfl kF37_2_2_2 rfl (ppC rfl (ppC rfl (ppC rfl pp0))) rfl rfl pb0 rfl rfl rfl) <| sq z43 (oPkT rfl rfl (Iff.rfl.2 hc1) rfl) <| sq z43 (oMv rfl rfl) <| sgT z43 rfl rfl (Iff.rfl.2 hc2) (oFA (r' := .mp 1 0 2) rfl fF31_2 rfl rfl) <| sgT z43 rfl rfl (Iff.rfl.2 hc2) (oLd (cs := [.im 0 _]) rfl tF2 rfl rfl) <| sgT z43 rfl rfl (Iff.rfl.2 hc2) (oFA (r' := .mp 1 0 0) rfl fF31_0 rfl rfl) <| sgT z43 rfl rfl (Iff.rfl.2 hc2) (oLd (cs := [.im 0 _]) rfl tF2 rfl rfl) <| sgT z43 rfl rfl (Iff.rfl.2 hc2) (oCa (xs := [.v false [.im 0 _], .v false [.im 0 _], .v false [.im 0 _]]) (vs := [(false, [.im 0 _])]) (v := .v false [.im 0 _]) (L_impl_within hx16) rfl rfl kF37_2_2_2 rfl (ppC rfl (ppC rfl (ppC rfl pp0))) rfl rfl pb0 rfl rfl rfl) <| sq z43 (oPkT rfl rfl (Iff.rfl.2 hc2) rfl) <| sq z43 (oMv rfl rfl) <| sgF rfl rfl (byF Iff.rfl hc3) rfl <| sgF rfl rfl (byF Iff.rfl hc3) rfl <| sgF rfl rfl (byF Iff.rfl hc3) rfl <| sgF rfl rfl (byF Iff.rfl hc3) rfl <| sgF rfl rfl (byF Iff.rfl hc3) rfl <| sgF rfl rfl (byF Iff.rfl hc3) rfl <| sq z43 (oPkF rfl rfl (byF Iff.rfl hc3) rfl) <| sq z43 (oAsI rfl rfl) <| nl, (by kernel_rfl)⟩
      · rw [if_neg hc2] at hm4
        cases hm4
        exact ⟨_, sq z43 (oFA (r' := .mp 1 0 0) rfl fF31_0 rfl rfl) <| sq z43 (oLd (cs := [.im 0 _]) rfl tF2 rfl rfl) <| sq z43 (oCa (xs := [.v false [.im 0 _], .v false [.im 0 _], .v false [.im 0 _]]) (vs := [(false, [.im 0 _])]) (v := .v false [.im 0 _]) (L_impl_within hx5) rfl rfl kF37_2_2_2 rfl (ppC rfl (ppC rfl (ppC rfl pp0))) rfl rfl pb0 rfl rfl rfl) <| sq z43 (oMv rfl rfl) <| sgT z43 rfl rfl (Iff.rfl.2 hc1) (oFA (r' := .mp 1 0 1) rfl fF31_1 rfl rfl) <| sgT z43 rfl rfl (Iff.rfl.2 hc1) (oLd (cs := [.im 0 _]) rfl tF2 rfl rfl) <| sgT z43 rfl rfl (Iff.rfl.2 hc1) (oCa (xs := [.v false [.im 0 _], .v false [.im 0 _], .v false [.im 0 _]]) (vs := [(false, [.im 0 _])]) (v := .v false [.im 0 _]) (L_impl_within hx9) rfl rfl kF37_2_2_2 rfl (ppC rfl (ppC rfl (ppC rfl pp0))) rfl rfl pb0 rfl rfl rfl) <| sq z43 (oPkT rfl rfl (Iff.rfl.2 hc1) rfl) <| sq z43 (oMv rfl rfl) <| sgF rfl rfl (byF Iff.rfl hc2) rfl <| sgF rfl rfl (byF Iff.rfl hc2) rfl <| sgF rfl rfl (byF Iff.rfl hc2) rfl <| sgF rfl rfl (byF Iff.rfl hc2) rfl <| sgF rfl rfl (byF Iff.rfl hc2) rfl <| sq z43 (oPkF rfl rfl (byF Iff.rfl hc2) rfl) <| sq z43 (oMv rfl rfl) <| sgF rfl rfl rfl rfl <| sgF rfl rfl rfl rfl <| sgF rfl rfl rfl rfl <| sgF rfl rfl rfl rfl <| sgF rfl rfl rfl rfl <| sgF rfl rfl rfl rfl <| sq z43 (oPkF rfl rfl rfl rfl) <| sq z43 (oAsI rfl rfl) <| nl, (by kernel_rfl)⟩
    · rw [if_neg hc1] at hm4
      cases hm4
      exact ⟨_, sq z43 (oFA (r' := .mp 1 0 0) rfl fF31_0 rfl rfl) <| sq z43 (oLd (cs := [.im 0 _]) rfl tF2 rfl rfl) <| sq z43 (oCa (xs := [.v false [.im 0 _], .v false [.im 0 _], .v false [.im 0 _]]) (vs := [(false, [.im 0 _])]) (v := .v false [.im 0 _]) (L_impl_within hx5) rfl rfl kF37_2_2_2 rfl (ppC rfl (ppC rfl (ppC rfl pp0))) rfl rfl pb0 rfl rfl rfl) <| sq z43 (oMv rfl rfl) <| sgF rfl rfl (byF Iff.rfl hc1) rfl <| sgF rfl rfl (byF Iff.rfl hc1) rfl <| sgF rfl rfl (byF Iff.rfl hc1) rfl <| sq z43 (oPkF rfl rfl (byF Iff.rfl hc1) rfl) <| sq z43 (oMv rfl rfl) <| sgF rfl rfl rfl rfl <| sgF rfl rfl rfl rfl <| sgF rfl rfl rfl rfl <| sgF rfl rfl rfl rfl <| sgF rfl rfl rfl rfl <| sq z43 (oPkF rfl rfl rfl rfl) <| sq z43 (oMv rfl rfl) <| sgF rfl rfl rfl rfl <| sgF rfl rfl rfl rfl <| sgF rfl rfl rfl rfl <| sgF rfl rfl rfl rfl <| sgF rfl rfl rfl rfl <| sgF rfl rfl rfl rfl <| sq z43 (oPkF rfl rfl rfl rfl) <| sq z43 (oAsI rfl rfl) <| nl, (by kernel_rfl)⟩
  · refine Unw.seq ?_
    refine Go.ret (Unw.ret ?_)
    cases h
    exact Fin_ret (fin_of rfl rF43 rfl (by kernel_rfl))
theorem L_impl_roomCode {r_0 : S_Room} {k_1 : S_Stock} {r : Int} (h : impl_roomCode r_0 k_1 = some r) : FL Try.prog cfg 24 [.im 2 true [.sc (.int .i64 r_0.Width), .sc (.int .i64 r_0.Length)], .im 2 true [.sc (.int .i64 k_1.Board), .sc (.int .i64 k_1.Wide), .sc (.int .i64 k_1.Least), .sc (.int .i64 k_1.Stagger)]] = some ([(false, [.im 0 (.sc (.int .i64 r))])], []) := by
  unfold impl_roomCode at h
  refine FL_goS (A := [(0, .v true [.im 2 (.sc (.int .i64 r_0.Width)), .im 2 (.sc (.int .i64 r_0.Length))]), (1, .v true [.im 2 (.sc (.int .i64 k_1.Board)), .im 2 (.sc (.int .i64 k_1.Wide)), .im 2 (.sc (.int .i64 k_1.Least)), .im 2 (.sc (.int .i64 k_1.Stagger))])]) (B := [(0, none), (1, none)]) (nt := 13) rfl rfl Try.func24 rfl rfl rfl rfl ?_
  refine Go.seq ?_
  refine Go.r0 c24 rfl rfl (sq z24 (oBx rfl tF29 rfl (tkI (tkI tk0))) <| sq z24 (oBx rfl tF31 rfl (tkI (tkI (tkI (tkI tk0))))) <| sq z24 (oAsI rfl rfl) <| nl) ?_
  refine Unw.seq ?_
  refine Go.seq ?_
  refine Go.seq ?_
  obtain ⟨x6, hx6, h⟩ := bs h
  obtain ⟨t_12_m1, hm3, h⟩ := bs h
  refine Go.rX c24 rfl rfl rfl (mk [(12, bv t_12_m1)] []) ?_ ?_
  · by_cases hc1 : x6 = true
    · rw [if_pos hc1] at hm3
      obtain ⟨x10, hx10, hm3⟩ := bs hm3
      cases hm3
      exact ⟨_, sq z24 (oLd (cs := [.im 0 _, .im 0 _]) rfl tF29 rfl rfl) <| sq z24 (oCa (xs := [.v true [.im 0 _, .im 0 _]]) (vs := [(false, [.im 0 _])]) (v := .v false [.im 0 _]) (L_impl_ValidRoom hx6) rfl rfl kF42_29 rfl (ppC rfl pp0) rfl rfl pb0 rfl rfl rfl) <| sq z24 (oUn rfl rfl rfl) <| sq z24 (oMv rfl rfl) <| sgT z24 rfl rfl (nF (Iff.rfl.2 hc1)) (oLd (cs := [.im 0 _, .im 0 _, .im 0 _, .im 0 _]) rfl tF31 rfl rfl) <| sgT z24 rfl rfl (nF (Iff.rfl.2 hc1)) (oCa (xs := [.v true [.im 0 _, .im 0 _, .im 0 _, .im 0 _]]) (vs := [(false, [.im 0 _])]) (v := .v false [.im 0 _]) (L_impl_ValidStock hx10) rfl rfl kF43_31 rfl (ppC rfl pp0) rfl rfl pb0 rfl rfl rfl) <| sgT z24 rfl rfl (nF (Iff.rfl.2 hc1)) (oUn rfl rfl rfl) <| sq z24 (oPkF rfl rfl (nF (Iff.rfl.2 hc1)) rfl) <| nl, (by kernel_rfl)⟩
    · rw [if_neg hc1] at hm3
      cases hm3
      exact ⟨_, sq z24 (oLd (cs := [.im 0 _, .im 0 _]) rfl tF29 rfl rfl) <| sq z24 (oCa (xs := [.v true [.im 0 _, .im 0 _]]) (vs := [(false, [.im 0 _])]) (v := .v false [.im 0 _]) (L_impl_ValidRoom hx6) rfl rfl kF42_29 rfl (ppC rfl pp0) rfl rfl pb0 rfl rfl rfl) <| sq z24 (oUn rfl rfl rfl) <| sq z24 (oMv rfl rfl) <| sgF rfl rfl (nT (byF Iff.rfl hc1)) rfl <| sgF rfl rfl (nT (byF Iff.rfl hc1)) rfl <| sgF rfl rfl (nT (byF Iff.rfl hc1)) rfl <| sq z24 (oPkT rfl rfl (nT (byF Iff.rfl hc1)) rfl) <| nl, (by kernel_rfl)⟩
  · refine Unw.seq ?_
    by_cases hc2 : t_12_m1 = true
    · rw [if_pos hc2] at h
      refine Go.condT rfl (Iff.rfl.2 hc2) ?_
      refine Go.seq ?_
      refine Go.r0 c24 rfl rfl (sq z24 (oAsI rfl rfl) <| nl) ?_
      refine Unw.seq ?_
      refine Go.ret (Unw.ret ?_)
      cases h
      exact Fin_ret (fin_of rfl rF24 rfl (by kernel_rfl))
    · rw [if_neg hc2] at h
      refine Go.condF rfl (byF Iff.rfl hc2) ?_
      refine Go.skip ?_
      refine Unw.seq ?_
      refine Go.seq ?_
      refine Go.r0 c24 rfl rfl (sq z24 (oAsI rfl rfl) <| nl) ?_
      refine Unw.seq ?_
      refine Go.ret (Unw.ret ?_)
      cases h
      exact Fin_ret (fin_of rfl rF24 rfl (by kernel_rfl))
theorem L_impl_upDiv {a_0 : Int} {b_1 : Int} {r : Int} (h : impl_upDiv a_0 b_1 = some r) : FL Try.prog cfg 52 [.im 2 false [.sc (.int .i64 a_0)], .im 2 false [.sc (.int .i64 b_1)]] = some ([(false, [.im 0 (.sc (.int .i64 r))])], []) := by
  unfold impl_upDiv at h
  refine FL_goS (A := [(0, .v false [.im 2 (.sc (.int .i64 a_0))]), (1, .v false [.im 2 (.sc (.int .i64 b_1))])]) (B := [(0, none), (1, none)]) (nt := 11) rfl rfl Try.func52 rfl rfl rfl rfl ?_
  refine Go.seq ?_
  refine Go.r0 c52 rfl rfl (sq z52 (oAsI rfl rfl) <| nl) ?_
  refine Unw.seq ?_
  refine Go.seq ?_
  obtain ⟨x10, hx10, h⟩ := bs h
  refine Go.r0 c52 rfl rfl (sq z52 (oMv rfl rfl) <| sq z52 (oMv rfl rfl) <| sq z52 (oBi rfl rfl rfl rfl) <| sq z52 (oBi rfl rfl rfl rfl) <| sq z52 (oMv rfl rfl) <| sq z52 (oQuo rfl hx10 rfl rfl) <| sq z52 (oAsI rfl rfl) <| nl) ?_
  refine Unw.seq ?_
  refine Go.ret (Unw.ret ?_)
  cases h
  exact Fin_ret (fin_of rfl rF52 rfl (by kernel_rfl))
theorem L_impl_rows {r_0 : S_Room} {k_1 : S_Stock} {r : Int} (h : impl_rows r_0 k_1 = some r) : FL Try.prog cfg 44 [.im 2 true [.sc (.int .i64 r_0.Width), .sc (.int .i64 r_0.Length)], .im 2 true [.sc (.int .i64 k_1.Board), .sc (.int .i64 k_1.Wide), .sc (.int .i64 k_1.Least), .sc (.int .i64 k_1.Stagger)]] = some ([(false, [.im 0 (.sc (.int .i64 r))])], []) := by
  unfold impl_rows at h
  refine FL_goS (A := [(0, .v true [.im 2 (.sc (.int .i64 r_0.Width)), .im 2 (.sc (.int .i64 r_0.Length))]), (1, .v true [.im 2 (.sc (.int .i64 k_1.Board)), .im 2 (.sc (.int .i64 k_1.Wide)), .im 2 (.sc (.int .i64 k_1.Least)), .im 2 (.sc (.int .i64 k_1.Stagger))])]) (B := [(0, none), (1, none)]) (nt := 10) rfl rfl Try.func44 rfl rfl rfl rfl ?_
  refine Go.seq ?_
  refine Go.r0 c44 rfl rfl (sq z44 (oBx rfl tF29 rfl (tkI (tkI tk0))) <| sq z44 (oBx rfl tF31 rfl (tkI (tkI (tkI (tkI tk0))))) <| sq z44 (oAsI rfl rfl) <| nl) ?_
  refine Unw.seq ?_
  refine Go.seq ?_
  obtain ⟨x9, hx9, h⟩ := bs h
  refine Go.r0 c44 rfl rfl (sq z44 (oFA (r' := .mp 2 0 1) rfl fF29_1 rfl rfl) <| sq z44 (oLd (cs := [.im 0 _]) rfl tF2 rfl rfl) <| sq z44 (oFA (r' := .mp 3 0 1) rfl fF31_1 rfl rfl) <| sq z44 (oLd (cs := [.im 0 _]) rfl tF2 rfl rfl) <| sq z44 (oCa (xs := [.v false [.im 0 _], .v false [.im 0 _]]) (vs := [(false, [.im 0 _])]) (v := .v false [.im 0 _]) (L_impl_upDiv hx9) rfl rfl kF52_2_2 rfl (ppC rfl (ppC rfl pp0)) rfl rfl pb0 rfl rfl rfl) <| sq z44 (oAsI rfl rfl) <| nl) ?_
  refine Unw.seq ?_
  refine Go.ret (Unw.ret ?_)
  cases h
  exact Fin_ret (fin_of rfl rF44 rfl (by kernel_rfl))
theorem L_impl_RowCount {r_0 : S_Room} {k_1 : S_Stock} {r : (Int × Int)} (h : impl_RowCount r_0 k_1 = some r) : FL Try.prog cfg 31 [.im 2 true [.sc (.int .i64 r_0.Width), .sc (.int .i64 r_0.Length)], .im 2 true [.sc (.int .i64 k_1.Board), .sc (.int .i64 k_1.Wide), .sc (.int .i64 k_1.Least), .sc (.int .i64 k_1.Stagger)]] = some ([(false, [.im 0 (.sc (.int .i64 r.1))]), (false, [.im 0 (.sc (.int .i64 r.2))])], []) := by
  unfold impl_RowCount at h
  refine FL_goS (A := [(0, .v true [.im 2 (.sc (.int .i64 r_0.Width)), .im 2 (.sc (.int .i64 r_0.Length))]), (1, .v true [.im 2 (.sc (.int .i64 k_1.Board)), .im 2 (.sc (.int .i64 k_1.Wide)), .im 2 (.sc (.int .i64 k_1.Least)), .im 2 (.sc (.int .i64 k_1.Stagger))])]) (B := [(0, none), (1, none)]) (nt := 19) rfl rfl Try.func31 rfl rfl rfl rfl ?_
  refine Go.seq ?_
  refine Go.r0 c31 rfl rfl (sq z31 (oBx rfl tF29 rfl (tkI (tkI tk0))) <| sq z31 (oBx rfl tF31 rfl (tkI (tkI (tkI (tkI tk0))))) <| sq z31 (oAsI rfl rfl) <| sq z31 (oAsI rfl rfl) <| nl) ?_
  refine Unw.seq ?_
  refine Go.seq ?_
  refine Go.block ?_
  refine Go.seq ?_
  obtain ⟨x9, hx9, h⟩ := bs h
  refine Go.r0 c31 rfl rfl (sq z31 (oLd (cs := [.im 0 _, .im 0 _]) rfl tF29 rfl rfl) <| sq z31 (oLd (cs := [.im 0 _, .im 0 _, .im 0 _, .im 0 _]) rfl tF31 rfl rfl) <| sq z31 (oCa (xs := [.v true [.im 0 _, .im 0 _], .v true [.im 0 _, .im 0 _, .im 0 _, .im 0 _]]) (vs := [(false, [.im 0 _])]) (v := .v false [.im 0 _]) (L_impl_roomCode hx9) rfl rfl kF24_29_31 rfl (ppC rfl (ppC rfl pp0)) rfl rfl pb0 rfl rfl rfl) <| sq z31 (oBi rfl rfl rfl rfl) <| sq z31 (oAsI rfl rfl) <| nl) ?_
  refine Unw.seq ?_
  by_cases hc1 : x9 ≠ 0
  · rw [if_pos hc1] at h
    refine Go.condT rfl (iNe.2 hc1) ?_
    refine Go.seq ?_
    refine Go.r0 c31 rfl rfl (sq z31 (oAsI rfl rfl) <| sq z31 (oAsI rfl rfl) <| nl) ?_
    refine Unw.seq ?_
    refine Go.ret (Unw.ret ?_)
    cases h
    exact Fin_ret (fin_of rfl rF31 rfl (by kernel_rfl))
  · rw [if_neg hc1] at h
    refine Go.condF rfl (byF iNe hc1) ?_
    refine Go.seq ?_
    obtain ⟨x14, hx14, h⟩ := bs h
    refine Go.r0 c31 rfl rfl (sq z31 (oLd (cs := [.im 0 _, .im 0 _]) rfl tF29 rfl rfl) <| sq z31 (oLd (cs := [.im 0 _, .im 0 _, .im 0 _, .im 0 _]) rfl tF31 rfl rfl) <| sq z31 (oCa (xs := [.v true [.im 0 _, .im 0 _], .v true [.im 0 _, .im 0 _, .im 0 _, .im 0 _]]) (vs := [(false, [.im 0 _])]) (v := .v false [.im 0 _]) (L_impl_rows hx14) rfl rfl kF44_29_31 rfl (ppC rfl (ppC rfl pp0)) rfl rfl pb0 rfl rfl rfl) <| sq z31 (oBi rfl rfl rfl rfl) <| sq z31 (oAsI rfl rfl) <| nl) ?_
    refine Unw.seq ?_
    by_cases hc2 : x14 > 40
    · rw [if_pos hc2] at h
      refine Go.condT rfl (iDec.2 hc2) ?_
      refine Go.seq ?_
      refine Go.r0 c31 rfl rfl (sq z31 (oAsI rfl rfl) <| sq z31 (oAsI rfl rfl) <| nl) ?_
      refine Unw.seq ?_
      refine Go.ret (Unw.ret ?_)
      cases h
      exact Fin_ret (fin_of rfl rF31 rfl (by kernel_rfl))
    · rw [if_neg hc2] at h
      refine Go.condF rfl (byF iDec hc2) ?_
      refine Go.skip ?_
      refine Unw.blk ?_
      refine Unw.seq ?_
      refine Go.seq ?_
      obtain ⟨x18, hx18, h⟩ := bs h
      refine Go.r0 c31 rfl rfl (sq z31 (oLd (cs := [.im 0 _, .im 0 _]) rfl tF29 rfl rfl) <| sq z31 (oLd (cs := [.im 0 _, .im 0 _, .im 0 _, .im 0 _]) rfl tF31 rfl rfl) <| sq z31 (oCa (xs := [.v true [.im 0 _, .im 0 _], .v true [.im 0 _, .im 0 _, .im 0 _, .im 0 _]]) (vs := [(false, [.im 0 _])]) (v := .v false [.im 0 _]) (L_impl_rows hx18) rfl rfl kF44_29_31 rfl (ppC rfl (ppC rfl pp0)) rfl rfl pb0 rfl rfl rfl) <| sq z31 (oAsI rfl rfl) <| sq z31 (oAsI rfl rfl) <| nl) ?_
      refine Unw.seq ?_
      refine Go.ret (Unw.ret ?_)
      cases h
      exact Fin_ret (fin_of rfl rF31 rfl (by kernel_rfl))
theorem L_impl_makeRow {r_0 : S_Room} {k_1 : S_Stock} {first_2 : Int} {r : (S_row × Int)} (h : impl_makeRow r_0 k_1 first_2 = some r) : FL Try.prog cfg 45 [.im 2 true [.sc (.int .i64 r_0.Width), .sc (.int .i64 r_0.Length)], .im 2 true [.sc (.int .i64 k_1.Board), .sc (.int .i64 k_1.Wide), .sc (.int .i64 k_1.Least), .sc (.int .i64 k_1.Stagger)], .im 2 false [.sc (.int .i64 first_2)]] = some ([(true, [.ow 0 1 (List.map eI r.1.pieces), .ow 0 1 (List.map eI r.1.joints), .im 0 (.sc (.int .i64 r.1.last))]), (false, [.im 0 (.sc (.int .i64 r.2))])], []) := by
  unfold impl_makeRow at h
  refine FL_goS (A := [(0, .v true [.im 2 (.sc (.int .i64 r_0.Width)), .im 2 (.sc (.int .i64 r_0.Length))]), (1, .v true [.im 2 (.sc (.int .i64 k_1.Board)), .im 2 (.sc (.int .i64 k_1.Wide)), .im 2 (.sc (.int .i64 k_1.Least)), .im 2 (.sc (.int .i64 k_1.Stagger))]), (2, .v false [.im 2 (.sc (.int .i64 first_2))])]) (B := [(0, none), (1, none), (2, none)]) (nt := 68) rfl rfl Try.func45 rfl rfl rfl rfl ?_
  refine Go.seq ?_
  refine Go.r0 c45 rfl rfl (sq z45 (oBx rfl tF29 rfl (tkI (tkI tk0))) <| sq z45 (oBx rfl tF31 rfl (tkI (tkI (tkI (tkI tk0))))) <| sq z45 (oAl rfl tF53 (tkN (tkN (tkI tk0)))) <| sq z45 (oAsI rfl rfl) <| nl) ?_
  refine Unw.seq ?_
  refine Go.seq ?_
  refine Go.seq ?_
  obtain ⟨x15, hx15, h⟩ := bs h
  refine Go.r0 c45 rfl rfl (sq z45 (oMv rfl rfl) <| sq z45 (oFA (r' := .mp 4 0 2) rfl fF31_2 rfl rfl) <| sq z45 (oLd (cs := [.im 0 _]) rfl tF2 rfl rfl) <| sq z45 (oFA (r' := .mp 4 0 0) rfl fF31_0 rfl rfl) <| sq z45 (oLd (cs := [.im 0 _]) rfl tF2 rfl rfl) <| sq z45 (oCa (xs := [.v false [.im 2 _], .v false [.im 0 _], .v false [.im 0 _]]) (vs := [(false, [.im 0 _])]) (v := .v false [.im 0 _]) (L_impl_within hx15) rfl rfl kF37_2_2_2 rfl (ppC rfl (ppC rfl (ppC rfl pp0))) rfl rfl pb0 rfl rfl rfl) <| sq z45 (oUn rfl rfl rfl) <| nl) ?_
  refine Unw.seq ?_
  by_cases hc1 : x15 = true
  · rw [if_pos hc1] at h
    refine Go.condF rfl (nF (Iff.rfl.2 hc1)) ?_
    refine Go.skip ?_
    refine Unw.seq ?_
    refine Go.seq ?_
    refine Go.seq ?_
    refine Go.r0 c45 rfl rfl (sq z45 (oFA (r' := .mp 3 0 0) rfl fF29_0 rfl rfl) <| sq z45 (oLd (cs := [.im 0 _]) rfl tF2 rfl rfl) <| sq z45 (oMv rfl rfl) <| sq z45 (oBi rfl rfl rfl rfl) <| nl) ?_
    refine Unw.seq ?_
    by_cases hc2 : r_0.Width ≤ first_2
    · rw [if_pos hc2] at h
      refine Go.condT rfl (iDec.2 hc2) ?_
      refine Go.seq ?_
      refine Go.r0 c45 rfl rfl (sq z45 (oFA (r' := .mp 3 0 0) rfl fF29_0 rfl rfl) <| sq z45 (oLd (cs := [.im 0 _]) rfl tF2 rfl rfl) <| sq z45 (oBS (es := List.map eI ([r_0.Width] : List Int)) rfl sF26 rfl (ptC rfl (fxI fx0) rfl pt0) (flat0 rfl fun _ => rfl)) <| sq z45 (oFA (r' := .mp 3 0 0) rfl fF29_0 rfl rfl) <| sq z45 (oLd (cs := [.im 0 _]) rfl tF2 rfl rfl) <| sq z45 (oBu (cs := [.own 24 0 0, .nil, .im 0 _]) rfl bF53 rfl) <| sq z45 (oSt tF53 rfl rfl rfl (tkO rfl rfl (tkN (tkI tk0))) rfl rfl rfl) <| sq z45 (oAsI rfl rfl) <| nl) ?_
      refine Unw.seq ?_
      refine Go.ret (Unw.ret ?_)
      cases h
      exact Fin_ret (fin_of rfl rF45 rfl (by kernel_rfl))
    · rw [if_neg hc2] at h
      refine Go.condF rfl (byF iDec hc2) ?_
      refine Go.skip ?_
      refine Unw.seq ?_
      refine Go.seq ?_
      refine Go.r0 c45 rfl rfl (sq z45 (oMv rfl rfl) <| sq z45 (oBS (es := List.map eI ([first_2] : List Int)) rfl sF26 rfl (ptC rfl (fxI fx0) rfl pt0) (flat0 rfl fun _ => rfl)) <| sq z45 (oBu (cs := [.own 29 0 0, .nil, .im 0 _]) rfl bF53 rfl) <| sq z45 (oAl rfl tF53 (tkN (tkN (tkI tk0)))) <| sq z45 (oSt tF53 rfl rfl rfl (tkO rfl rfl (tkN (tkI tk0))) rfl rfl rfl) <| nl) ?_
      refine Unw.seq ?_
      refine Go.seq ?_
      refine Go.seq ?_
      refine Go.r1 c45 rfl rfl (st1 := mk [(2, iv first_2), (3, .v false [.mp 3 0 0]), (4, .v false [.mp 4 0 0]), (6, .v false [.mp 6 0 0]), (8, .v false [.mp 8 0 0])] [(3, some ⟨0, 0, false, true, false, true, [⟨.imm, 0, 0, .sc (.int .i64 r_0.Width)⟩, ⟨.imm, 0, 0, .sc (.int .i64 r_0.Length)⟩]⟩), (4, some ⟨0, 0, false, true, false, true, [⟨.imm, 0, 0, .sc (.int .i64 k_1.Board)⟩, ⟨.imm, 0, 0, .sc (.int .i64 k_1.Wide)⟩, ⟨.imm, 0, 0, .sc (.int .i64 k_1.Least)⟩, ⟨.imm, 0, 0, .sc (.int .i64 k_1.Stagger)⟩]⟩), (6, some ⟨0, 0, false, true, false, true, [⟨.sh, 0, 0, .row 1 (List.map eI ([] : List Int))⟩, ⟨.sh, 0, 0, .row 1 (List.map eI ([] : List Int))⟩, ⟨.imm, 0, 0, .sc (.int .i64 0)⟩]⟩), (8, some ⟨0, 0, false, true, false, true, [⟨.sh, 0, 0, .row 1 (List.map eI ([first_2] : List Int))⟩, ⟨.sh, 0, 0, .row 1 (List.map eI ([] : List Int))⟩, ⟨.imm, 0, 0, .sc (.int .i64 0)⟩]⟩)]) (by kernel_rfl) (sq z45 (oMv rfl rfl) <| sq z45 (oAsI rfl rfl) <| nl) ?_
      refine Unw.seq ?_
      refine Go.block ?_
      obtain ⟨o, hl, h⟩ := bs h
      refine Go.lp c45 rfl _ (fun (s : (Int × (List Int) × (List Int) × Int)) => match s with | (at_9_l7, out_o8_0_l7, out_o8_1_l7, out_o8_2_l7) => mk [(3, .v false [.mp 3 0 0]), (4, .v false [.mp 4 0 0]), (6, .v false [.mp 6 0 0]), (8, .v false [.mp 8 0 0]), (9, iv at_9_l7)] [(3, some ⟨0, 0, false, true, false, true, [⟨.imm, 0, 0, .sc (.int .i64 r_0.Width)⟩, ⟨.imm, 0, 0, .sc (.int .i64 r_0.Length)⟩]⟩), (4, some ⟨0, 0, false, true, false, true, [⟨.imm, 0, 0, .sc (.int .i64 k_1.Board)⟩, ⟨.imm, 0, 0, .sc (.int .i64 k_1.Wide)⟩, ⟨.imm, 0, 0, .sc (.int .i64 k_1.Least)⟩, ⟨.imm, 0, 0, .sc (.int .i64 k_1.Stagger)⟩]⟩), (6, some ⟨0, 0, false, true, false, true, [⟨.sh, 0, 0, .row 1 (List.map eI ([] : List Int))⟩, ⟨.sh, 0, 0, .row 1 (List.map eI ([] : List Int))⟩, ⟨.imm, 0, 0, .sc (.int .i64 0)⟩]⟩), (8, some ⟨0, 0, false, true, false, true, [⟨.sh, 0, 0, .row 1 (List.map eI out_o8_0_l7)⟩, ⟨.sh, 0, 0, .row 1 (List.map eI out_o8_1_l7)⟩, ⟨.imm, 0, 0, .sc (.int .i64 out_o8_2_l7)⟩]⟩)]) (fun (o : ((List Int) × (List Int) × Int)) (p : Ex × St) => match o with | (out_o8_0_e0_7, out_o8_1_e0_7, out_o8_2_e0_7) => p.1 = .exit 0 ∧ p.2.norm ([4, 6, 8], [4, 6, 8]) = mk [(4, .v false [.mp 4 0 0]), (6, .v false [.mp 6 0 0]), (8, .v false [.mp 8 0 0])] [(4, some ⟨0, 0, false, true, false, true, [⟨.imm, 0, 0, .sc (.int .i64 k_1.Board)⟩, ⟨.imm, 0, 0, .sc (.int .i64 k_1.Wide)⟩, ⟨.imm, 0, 0, .sc (.int .i64 k_1.Least)⟩, ⟨.imm, 0, 0, .sc (.int .i64 k_1.Stagger)⟩]⟩), (6, some ⟨0, 0, false, true, false, true, [⟨.sh, 0, 0, .row 1 (List.map eI ([] : List Int))⟩, ⟨.sh, 0, 0, .row 1 (List.map eI ([] : List Int))⟩, ⟨.imm, 0, 0, .sc (.int .i64 0)⟩]⟩), (8, some ⟨0, 0, false, true, false, true, [⟨.sh, 0, 0, .row 1 (List.map eI out_o8_0_e0_7)⟩, ⟨.sh, 0, 0, .row 1 (List.map eI out_o8_1_e0_7)⟩, ⟨.imm, 0, 0, .sc (.int .i64 out_o8_2_e0_7)⟩]⟩)]) hl (by kernel_rfl) ?_ ?_ ?_
      · intro o p hp e
        obtain ⟨out_o8_0_e0_7, out_o8_1_e0_7, out_o8_2_e0_7⟩ := o
        exact nomatch (hp.1.symm.trans e)
      · rintro ⟨at_9_l7, out_o8_0_l7, out_o8_1_l7, out_o8_2_l7⟩ o h
        unfold impl_makeRow_l7 at h
        dsimp only at h
        refine Go.seq ?_
        refine Go.seq ?_
        refine Go.r0 c45 rfl rfl (sq z45 (oMv rfl rfl) <| sq z45 (oFA (r' := .mp 3 0 0) rfl fF29_0 rfl rfl) <| sq z45 (oLd (cs := [.im 0 _]) rfl tF2 rfl rfl) <| sq z45 (oBi rfl rfl rfl rfl) <| nl) ?_
        refine Unw.seq ?_
        by_cases hc6 : at_9_l7 < r_0.Width
        · rw [if_pos hc6] at h
          refine Go.condT rfl (iDec.2 hc6) ?_
          refine Go.skip ?_
          refine Unw.seq ?_
          refine Go.block ?_
          refine Go.seq ?_
          obtain ⟨x40, hx40, h⟩ := bs h
          refine Go.r0 c45 rfl rfl (sq z45 (oFA (r' := .mp 8 0 1) rfl fF53_1 rfl rfl) <| sq z45 (oLd (cs := [.own 8 0 1]) rfl tF26 rfl rfl) <| sq z45 (oMv rfl rfl) <| sq z45 (oBS (es := List.map eI ([at_9_l7] : List Int)) rfl sF26 rfl (ptC rfl (fxI fx0) rfl pt0) (flat0 rfl fun _ => rfl)) <| sq z45 (oApO (en := eI) (M := ([at_9_l7] : List Int)) rfl hx40 rfl sF26 rfl rfl uF26 (.inl ⟨_, rfl⟩) rfl rfl rfl rfl (el_own rfl rfl) (flat0 rfl fun _ => rfl)) <| sq z45 (oFA (r' := .mp 8 0 1) rfl fF53_1 rfl rfl) <| sq z45 (oSt tF26 rfl rfl rfl (tkO rfl rfl tk0) rfl rfl rfl) <| nl) ?_
          refine Unw.seq ?_
          refine Go.seq ?_
          refine Go.r1 c45 rfl rfl (st1 := mk [(3, .v false [.mp 3 0 0]), (4, .v false [.mp 4 0 0]), (6, .v false [.mp 6 0 0]), (8, .v false [.mp 8 0 0]), (9, iv at_9_l7)] [(3, some ⟨0, 0, false, true, false, true, [⟨.imm, 0, 0, .sc (.int .i64 r_0.Width)⟩, ⟨.imm, 0, 0, .sc (.int .i64 r_0.Length)⟩]⟩), (4, some ⟨0, 0, false, true, false, true, [⟨.imm, 0, 0, .sc (.int .i64 k_1.Board)⟩, ⟨.imm, 0, 0, .sc (.int .i64 k_1.Wide)⟩, ⟨.imm, 0, 0, .sc (.int .i64 k_1.Least)⟩, ⟨.imm, 0, 0, .sc (.int .i64 k_1.Stagger)⟩]⟩), (6, some ⟨0, 0, false, true, false, true, [⟨.sh, 0, 0, .row 1 (List.map eI ([] : List Int))⟩, ⟨.sh, 0, 0, .row 1 (List.map eI ([] : List Int))⟩, ⟨.imm, 0, 0, .sc (.int .i64 0)⟩]⟩), (8, some ⟨0, 0, false, true, false, true, [⟨.sh, 0, 0, .row 1 (List.map eI out_o8_0_l7)⟩, ⟨.sh, 0, 0, .row 1 (List.map eI x40)⟩, ⟨.imm, 0, 0, .sc (.int .i64 out_o8_2_l7)⟩]⟩)]) (by kernel_rfl) (sq z45 (oFA (r' := .mp 3 0 0) rfl fF29_0 rfl rfl) <| sq z45 (oLd (cs := [.im 0 _]) rfl tF2 rfl rfl) <| sq z45 (oMv rfl rfl) <| sq z45 (oBi rfl rfl rfl rfl) <| sq z45 (oFA (r' := .mp 4 0 0) rfl fF31_0 rfl rfl) <| sq z45 (oLd (cs := [.im 0 _]) rfl tF2 rfl rfl) <| sq z45 (oMin rfl rfl) <| sq z45 (oFA (r' := .mp 8 0 2) rfl fF53_2 rfl rfl) <| sq z45 (oSt tF2 rfl rfl rfl (tkI tk0) rfl rfl rfl) <| nl) ?_
          refine Unw.seq ?_
          refine Go.seq ?_
          obtain ⟨x55, hx55, h⟩ := bs h
          refine Go.r1 c45 rfl rfl (st1 := mk [(3, .v false [.mp 3 0 0]), (4, .v false [.mp 4 0 0]), (6, .v false [.mp 6 0 0]), (8, .v false [.mp 8 0 0]), (9, iv at_9_l7)] [(3, some ⟨0, 0, false, true, false, true, [⟨.imm, 0, 0, .sc (.int .i64 r_0.Width)⟩, ⟨.imm, 0, 0, .sc (.int .i64 r_0.Length)⟩]⟩), (4, some ⟨0, 0, false, true, false, true, [⟨.imm, 0, 0, .sc (.int .i64 k_1.Board)⟩, ⟨.imm, 0, 0, .sc (.int .i64 k_1.Wide)⟩, ⟨.imm, 0, 0, .sc (.int .i64 k_1.Least)⟩, ⟨.imm, 0, 0, .sc (.int .i64 k_1.Stagger)⟩]⟩), (6, some ⟨0, 0, false, true, false, true, [⟨.sh, 0, 0, .row 1 (List.map eI ([] : List Int))⟩, ⟨.sh, 0, 0, .row 1 (List.map eI ([] : List Int))⟩, ⟨.imm, 0, 0, .sc (.int .i64 0)⟩]⟩), (8, some ⟨0, 0, false, true, false, true, [⟨.sh, 0, 0, .row 1 (List.map eI out_o8_0_l7)⟩, ⟨.sh, 0, 0, .row 1 (List.map eI x40)⟩, ⟨.imm, 0, 0, .sc (.int .i64 (min2 (w64 (r_0.Width - at_9_l7)) k_1.Board))⟩]⟩)]) (by kernel_rfl) (sq z45 (oFA (r' := .mp 8 0 0) rfl fF53_0 rfl rfl) <| sq z45 (oLd (cs := [.own 8 0 0]) rfl tF26 rfl rfl) <| sq z45 (oFA (r' := .mp 8 0 2) rfl fF53_2 rfl rfl) <| sq z45 (oLd (cs := [.im 0 _]) rfl tF2 rfl rfl) <| sq z45 (oBS (es := List.map eI ([(min2 (w64 (r_0.Width - at_9_l7)) k_1.Board)] : List Int)) rfl sF26 rfl (ptC rfl (fxI fx0) rfl pt0) (flat0 rfl fun _ => rfl)) <| sq z45 (oApO (en := eI) (M := ([(min2 (w64 (r_0.Width - at_9_l7)) k_1.Board)] : List Int)) rfl hx55 rfl sF26 rfl rfl uF26 (.inl ⟨_, rfl⟩) rfl rfl rfl rfl (el_own rfl rfl) (flat0 rfl fun _ => rfl)) <| sq z45 (oFA (r' := .mp 8 0 0) rfl fF53_0 rfl rfl) <| sq z45 (oSt tF26 rfl rfl rfl (tkO rfl rfl tk0) rfl rfl rfl) <| nl) ?_
          refine Unw.seq ?_
          refine Go.r1 c45 rfl rfl (st1 := mk [(3, .v false [.mp 3 0 0]), (4, .v false [.mp 4 0 0]), (6, .v false [.mp 6 0 0]), (8, .v false [.mp 8 0 0]), (9, iv at_9_l7)] [(3, some ⟨0, 0, false, true, false, true, [⟨.imm, 0, 0, .sc (.int .i64 r_0.Width)⟩, ⟨.imm, 0, 0, .sc (.int .i64 r_0.Length)⟩]⟩), (4, some ⟨0, 0, false, true, false, true, [⟨.imm, 0, 0, .sc (.int .i64 k_1.Board)⟩, ⟨.imm, 0, 0, .sc (.int .i64 k_1.Wide)⟩, ⟨.imm, 0, 0, .sc (.int .i64 k_1.Least)⟩, ⟨.imm, 0, 0, .sc (.int .i64 k_1.Stagger)⟩]⟩), (6, some ⟨0, 0, false, true, false, true, [⟨.sh, 0, 0, .row 1 (List.map eI ([] : List Int))⟩, ⟨.sh, 0, 0, .row 1 (List.map eI ([] : List Int))⟩, ⟨.imm, 0, 0, .sc (.int .i64 0)⟩]⟩), (8, some ⟨0, 0, false, true, false, true, [⟨.sh, 0, 0, .row 1 (List.map eI x55)⟩, ⟨.sh, 0, 0, .row 1 (List.map eI x40)⟩, ⟨.imm, 0, 0, .sc (.int .i64 (min2 (w64 (r_0.Width - at_9_l7)) k_1.Board))⟩]⟩)]) (by kernel_rfl) (sq z45 (oMv rfl rfl) <| sq z45 (oFA (r' := .mp 8 0 2) rfl fF53_2 rfl rfl) <| sq z45 (oLd (cs := [.im 0 _]) rfl tF2 rfl rfl) <| sq z45 (oBi rfl rfl rfl rfl) <| sq z45 (oAsI rfl rfl) <| nl) ?_
          refine Unw.blk ?_
          refine Unw.nil ?_
          cases h
          exact ⟨rfl, (by kernel_rfl)⟩
        · rw [if_neg hc6] at h
          refine Go.condF rfl (byF iDec hc6) ?_
          refine Go.exit ?_
          refine Unw.seqx ?_
          refine Unw.nil ?_
          cases h
          exact ⟨rfl, (by kernel_rfl)⟩
      · rintro ⟨e, st⟩ hp
        obtain ⟨out_o8_0_e0_7, out_o8_1_e0_7, out_o8_2_e0_7⟩ := o
        dsimp only at h
        obtain ⟨he, hst⟩ := hp
        obtain rfl : e = .exit 0 := he
        refine Unw.blkx ?_
        refine Unw.seq ?_
        refine Go.seq ?_
        refine Go.seq ?_
        refine Go.r1 c45 rfl rfl hst (sq z45 (oFA (r' := .mp 8 0 2) rfl fF53_2 rfl rfl) <| sq z45 (oLd (cs := [.im 0 _]) rfl tF2 rfl rfl) <| sq z45 (oFA (r' := .mp 4 0 2) rfl fF31_2 rfl rfl) <| sq z45 (oLd (cs := [.im 0 _]) rfl tF2 rfl rfl) <| sq z45 (oBi rfl rfl rfl rfl) <| nl) ?_
        refine Unw.seq ?_
        by_cases hc5 : out_o8_2_e0_7 < k_1.Least
        · rw [if_pos hc5] at h
          refine Go.condT rfl (iDec.2 hc5) ?_
          refine Go.seq ?_
          refine Go.r0 c45 rfl rfl (sq z45 (oBu (cs := [.nil, .nil, .im 0 _]) rfl bF53 rfl) <| sq z45 (oSt tF53 rfl rfl rfl (tkN (tkN (tkI tk0))) rfl rfl rfl) <| sq z45 (oAsI rfl rfl) <| nl) ?_
          refine Unw.seq ?_
          refine Go.ret (Unw.ret ?_)
          cases h
          exact Fin_ret (fin_of rfl rF45 rfl (by kernel_rfl))
        · rw [if_neg hc5] at h
          refine Go.condF rfl (byF iDec hc5) ?_
          refine Go.skip ?_
          refine Unw.seq ?_
          refine Go.seq ?_
          refine Go.r0 c45 rfl rfl (sq z45 (oLd (cs := [.own 8 0 0, .own 8 0 1, .im 0 _]) rfl tF53 rfl rfl) <| sq z45 (oSt tF53 rfl rfl rfl (tkO rfl rfl (tkO rfl rfl (tkI tk0))) rfl rfl rfl) <| sq z45 (oAsI rfl rfl) <| nl) ?_
          refine Unw.seq ?_
          refine Go.ret (Unw.ret ?_)
          cases h
          exact Fin_ret (fin_of rfl rF45 rfl (by kernel_rfl))
  · rw [if_neg hc1] at h
    refine Go.condT rfl (nT (byF Iff.rfl hc1)) ?_
    refine Go.seq ?_
    refine Go.r0 c45 rfl rfl (sq z45 (oBu (cs := [.nil, .nil, .im 0 _]) rfl bF53 rfl) <| sq z45 (oSt tF53 rfl rfl rfl (tkN (tkN (tkI tk0))) rfl rfl rfl) <| sq z45 (oAsI rfl rfl) <| nl) ?_
    refine Unw.seq ?_
    refine Go.ret (Unw.ret ?_)
    cases h
    exact Fin_ret (fin_of rfl rF45 rfl (by kernel_rfl))
theorem L_impl_absolute {n_0 : Int} {r : Int} (h : impl_absolute n_0 = some r) : FL Try.prog cfg 53 [.im 2 false [.sc (.int .i64 n_0)]] = some ([(false, [.im 0 (.sc (.int .i64 r))])], []) := by
  unfold impl_absolute at h
  refine FL_goS (A := [(0, .v false [.im 2 (.sc (.int .i64 n_0))])]) (B := [(0, none)]) (nt := 7) rfl rfl Try.func53 rfl rfl rfl rfl ?_
  refine Go.seq ?_
  refine Go.r0 c53 rfl rfl (sq z53 (oAsI rfl rfl) <| nl) ?_
  refine Unw.seq ?_
  refine Go.seq ?_
  refine Go.r0 c53 rfl rfl (sq z53 (oMv rfl rfl) <| sq z53 (oMv rfl rfl) <| sq z53 (oUn rfl rfl rfl) <| sq z53 (oMax rfl rfl) <| sq z53 (oAsI rfl rfl) <| nl) ?_
  refine Unw.seq ?_
  refine Go.ret (Unw.ret ?_)
  cases h
  exact Fin_ret (fin_of rfl rF53 rfl (by kernel_rfl))
theorem L_impl_staggered {a_0 : S_row} {b_1 : S_row} {k_2 : S_Stock} {r : Bool} (h : impl_staggered a_0 b_1 k_2 = some r) : FL Try.prog cfg 46 [.im 2 true [.row 1 (List.map eI a_0.pieces), .row 1 (List.map eI a_0.joints), .sc (.int .i64 a_0.last)], .im 2 true [.row 1 (List.map eI b_1.pieces), .row 1 (List.map eI b_1.joints), .sc (.int .i64 b_1.last)], .im 2 true [.sc (.int .i64 k_2.Board), .sc (.int .i64 k_2.Wide), .sc (.int .i64 k_2.Least), .sc (.int .i64 k_2.Stagger)]] = some ([(false, [.im 0 (.sc (.bool r))])], []) := by
  unfold impl_staggered at h
  refine FL_goS (A := [(0, .v true [.im 2 (.row 1 (List.map eI a_0.pieces)), .im 2 (.row 1 (List.map eI a_0.joints)), .im 2 (.sc (.int .i64 a_0.last))]), (1, .v true [.im 2 (.row 1 (List.map eI b_1.pieces)), .im 2 (.row 1 (List.map eI b_1.joints)), .im 2 (.sc (.int .i64 b_1.last))]), (2, .v true [.im 2 (.sc (.int .i64 k_2.Board)), .im 2 (.sc (.int .i64 k_2.Wide)), .im 2 (.sc (.int .i64 k_2.Least)), .im 2 (.sc (.int .i64 k_2.Stagger))])]) (B := [(0, none), (1, none), (2, none)]) (nt := 51) rfl rfl Try.func46 rfl rfl rfl rfl ?_
  refine Go.seq ?_
  refine Go.r0 c46 rfl rfl (sq z46 (oBx rfl tF53 rfl (tkI (tkI (tkI tk0)))) <| sq z46 (oBx rfl tF53 rfl (tkI (tkI (tkI tk0)))) <| sq z46 (oBx rfl tF31 rfl (tkI (tkI (tkI (tkI tk0))))) <| sq z46 (oAsI rfl rfl) <| nl) ?_
  refine Unw.seq ?_
  refine Go.seq ?_
  refine Go.r0 c46 rfl rfl (sq z46 (oAsI rfl rfl) <| sq z46 (oAsI rfl rfl) <| nl) ?_
  refine Unw.seq ?_
  refine Go.seq ?_
  refine Go.block ?_
  obtain ⟨o, hl, h⟩ := bs h
  refine Go.lp c46 rfl _ (fun (s : (Int × Int)) => match s with | (i_7_l2, n_8_l2) => mk [(3, .v false [.mp 3 0 0]), (4, .v false [.mp 4 0 0]), (5, .v false [.mp 5 0 0]), (7, iv i_7_l2), (8, iv n_8_l2)] [(3, some ⟨0, 0, false, true, false, true, [⟨.imm, 0, 2, .row 1 (List.map eI a_0.pieces)⟩, ⟨.imm, 0, 2, .row 1 (List.map eI a_0.joints)⟩, ⟨.imm, 0, 0, .sc (.int .i64 a_0.last)⟩]⟩), (4, some ⟨0, 0, false, true, false, true, [⟨.imm, 0, 2, .row 1 (List.map eI b_1.pieces)⟩, ⟨.imm, 0, 2, .row 1 (List.map eI b_1.joints)⟩, ⟨.imm, 0, 0, .sc (.int .i64 b_1.last)⟩]⟩), (5, some ⟨0, 0, false, true, false, true, [⟨.imm, 0, 0, .sc (.int .i64 k_2.Board)⟩, ⟨.imm, 0, 0, .sc (.int .i64 k_2.Wide)⟩, ⟨.imm, 0, 0, .sc (.int .i64 k_2.Least)⟩, ⟨.imm, 0, 0, .sc (.int .i64 k_2.Stagger)⟩]⟩)]) (fun (o : (Unit ⊕ Bool)) (p : Ex × St) => match o with | (.inl _) => p.1 = .exit 0 ∧ p.2.norm ([], []) = mk [] [] | (.inr r2) => p.1 = .ret ∧ fin Try.prog cfg 46 Try.f46 [.im 2 true [.row 1 (List.map eI a_0.pieces), .row 1 (List.map eI a_0.joints), .sc (.int .i64 a_0.last)], .im 2 true [.row 1 (List.map eI b_1.pieces), .row 1 (List.map eI b_1.joints), .sc (.int .i64 b_1.last)], .im 2 true [.sc (.int .i64 k_2.Board), .sc (.int .i64 k_2.Wide), .sc (.int .i64 k_2.Least), .sc (.int .i64 k_2.Stagger)]] p.2 = some ([(false, [.im 0 (.sc (.bool r2))])], [])) hl (by kernel_rfl) ?_ ?_ ?_
  · intro o p hp e
    rcases o with u | r2 <;> exact nomatch (hp.1.symm.trans e)
  · rintro ⟨i_7_l2, n_8_l2⟩ o h
    unfold impl_staggered_l2 at h
    dsimp only at h
    refine Go.seq ?_
    refine Go.seq ?_
    refine Go.rX c46 rfl rfl rfl (mk [(3, .v false [.mp 3 0 0]), (4, .v false [.mp 4 0 0]), (5, .v false [.mp 5 0 0]), (7, iv i_7_l2), (8, iv n_8_l2), (20, bv ((decide (i_7_l2 < (a_0.joints.length : Int))) && (decide (n_8_l2 < (b_1.joints.length : Int)))))] [(3, some ⟨0, 0, false, true, false, true, [⟨.imm, 0, 2, .row 1 (List.map eI a_0.pieces)⟩, ⟨.imm, 0, 2, .row 1 (List.map eI a_0.joints)⟩, ⟨.imm, 0, 0, .sc (.int .i64 a_0.last)⟩]⟩), (4, some ⟨0, 0, false, true, false, true, [⟨.imm, 0, 2, .row 1 (List.map eI b_1.pieces)⟩, ⟨.imm, 0, 2, .row 1 (List.map eI b_1.joints)⟩, ⟨.imm, 0, 0, .sc (.int .i64 b_1.last)⟩]⟩), (5, some ⟨0, 0, false, true, false, true, [⟨.imm, 0, 0, .sc (.int .i64 k_2.Board)⟩, ⟨.imm, 0, 0, .sc (.int .i64 k_2.Wide)⟩, ⟨.imm, 0, 0, .sc (.int .i64 k_2.Least)⟩, ⟨.imm, 0, 0, .sc (.int .i64 k_2.Stagger)⟩]⟩)]) ?_ ?_
    · by_cases hc9 : i_7_l2 < (a_0.joints.length : Int)
      · exact ⟨_, sq z46 (oMv rfl rfl) <| sq z46 (oFA (r' := .mp 3 0 1) rfl fF53_1 rfl rfl) <| sq z46 (oLd (cs := [.im 2 _]) rfl tF26 rfl rfl) <| sq z46 (oLnI rfl rfl uF26 rfl) <| sq z46 (oBi rfl rfl rfl rfl) <| sq z46 (oMv rfl rfl) <| sgT z46 rfl rfl (iDec.2 hc9) (oMv rfl rfl) <| sgT z46 rfl rfl (iDec.2 hc9) (oFA (r' := .mp 4 0 1) rfl fF53_1 rfl rfl) <| sgT z46 rfl rfl (iDec.2 hc9) (oLd (cs := [.im 2 _]) rfl tF26 rfl rfl) <| sgT z46 rfl rfl (iDec.2 hc9) (oLnI rfl rfl uF26 rfl) <| sgT z46 rfl rfl (iDec.2 hc9) (oBi rfl rfl rfl rfl) <| sq z46 (oPkT rfl rfl (iDec.2 hc9) rfl) <| nl, (Eq.trans (b := (fun t_20_m2 : Bool => mk [(3, .v false [.mp 3 0 0]), (4, .v false [.mp 4 0 0]), (5, .v false [.mp 5 0 0]), (7, iv i_7_l2), (8, iv n_8_l2), (20, bv t_20_m2)] [(3, some ⟨0, 0, false, true, false, true, [⟨.imm, 0, 2, .row 1 (List.map eI a_0.pieces)⟩, ⟨.imm, 0, 2, .row 1 (List.map eI a_0.joints)⟩, ⟨.imm, 0, 0, .sc (.int .i64 a_0.last)⟩]⟩), (4, some ⟨0, 0, false, true, false, true, [⟨.imm, 0, 2, .row 1 (List.map eI b_1.pieces)⟩, ⟨.imm, 0, 2, .row 1 (List.map eI b_1.joints)⟩, ⟨.imm, 0, 0, .sc (.int .i64 b_1.last)⟩]⟩), (5, some ⟨0, 0, false, true, false, true, [⟨.imm, 0, 0, .sc (.int .i64 k_2.Board)⟩, ⟨.imm, 0, 0, .sc (.int .i64 k_2.Wide)⟩, ⟨.imm, 0, 0, .sc (.int .i64 k_2.Least)⟩, ⟨.imm, 0, 0, .sc (.int .i64 k_2.Stagger)⟩]⟩)]) (decide (n_8_l2 < (b_1.joints.length : Int)))) (by kernel_rfl) (congrArg (fun t_20_m2 : Bool => mk [(3, .v false [.mp 3 0 0]), (4, .v false [.mp 4 0 0]), (5, .v false [.mp 5 0 0]), (7, iv i_7_l2), (8, iv n_8_l2), (20, bv t_20_m2)] [(3, some ⟨0, 0, false, true, false, true, [⟨.imm, 0, 2, .row 1 (List.map eI a_0.pieces)⟩, ⟨.imm, 0, 2, .row 1 (List.map eI a_0.joints)⟩, ⟨.imm, 0, 0, .sc (.int .i64 a_0.last)⟩]⟩), (4, some ⟨0, 0, false, true, false, true, [⟨.imm, 0, 2, .row 1 (List.map eI b_1.pieces)⟩, ⟨.imm, 0, 2, .row 1 (List.map eI b_1.joints)⟩, ⟨.imm, 0, 0, .sc (.int .i64 b_1.last)⟩]⟩), (5, some ⟨0, 0, false, true, false, true, [⟨.imm, 0, 0, .sc (.int .i64 k_2.Board)⟩, ⟨.imm, 0, 0, .sc (.int .i64 k_2.Wide)⟩, ⟨.imm, 0, 0, .sc (.int .i64 k_2.Least)⟩, ⟨.imm, 0, 0, .sc (.int .i64 k_2.Stagger)⟩]⟩)]) (by first | rfl | simp [(iDec.2 hc9)])))⟩
      · exact ⟨_, sq z46 (oMv rfl rfl) <| sq z46 (oFA (r' := .mp 3 0 1) rfl fF53_1 rfl rfl) <| sq z46 (oLd (cs := [.im 2 _]) rfl tF26 rfl rfl) <| sq z46 (oLnI rfl rfl uF26 rfl) <| sq z46 (oBi rfl rfl rfl rfl) <| sq z46 (oMv rfl rfl) <| sgF rfl rfl (byF iDec hc9) rfl <| sgF rfl rfl (byF iDec hc9) rfl <| sgF rfl rfl (byF iDec hc9) rfl <| sgF rfl rfl (byF iDec hc9) rfl <| sgF rfl rfl (byF iDec hc9) rfl <| sq z46 (oPkF rfl rfl (byF iDec hc9) rfl) <| nl, (Eq.trans (b := (fun t_20_m2 : Bool => mk [(3, .v false [.mp 3 0 0]), (4, .v false [.mp 4 0 0]), (5, .v false [.mp 5 0 0]), (7, iv i_7_l2), (8, iv n_8_l2), (20, bv t_20_m2)] [(3, some ⟨0, 0, false, true, false, true, [⟨.imm, 0, 2, .row 1 (List.map eI a_0.pieces)⟩, ⟨.imm, 0, 2, .row 1 (List.map eI a_0.joints)⟩, ⟨.imm, 0, 0, .sc (.int .i64 a_0.last)⟩]⟩), (4, some ⟨0, 0, false, true, false, true, [⟨.imm, 0, 2, .row 1 (List.map eI b_1.pieces)⟩, ⟨.imm, 0, 2, .row 1 (List.map eI b_1.joints)⟩, ⟨.imm, 0, 0, .sc (.int .i64 b_1.last)⟩]⟩), (5, some ⟨0, 0, false, true, false, true, [⟨.imm, 0, 0, .sc (.int .i64 k_2.Board)⟩, ⟨.imm, 0, 0, .sc (.int .i64 k_2.Wide)⟩, ⟨.imm, 0, 0, .sc (.int .i64 k_2.Least)⟩, ⟨.imm, 0, 0, .sc (.int .i64 k_2.Stagger)⟩]⟩)]) false) (by kernel_rfl) (congrArg (fun t_20_m2 : Bool => mk [(3, .v false [.mp 3 0 0]), (4, .v false [.mp 4 0 0]), (5, .v false [.mp 5 0 0]), (7, iv i_7_l2), (8, iv n_8_l2), (20, bv t_20_m2)] [(3, some ⟨0, 0, false, true, false, true, [⟨.imm, 0, 2, .row 1 (List.map eI a_0.pieces)⟩, ⟨.imm, 0, 2, .row 1 (List.map eI a_0.joints)⟩, ⟨.imm, 0, 0, .sc (.int .i64 a_0.last)⟩]⟩), (4, some ⟨0, 0, false, true, false, true, [⟨.imm, 0, 2, .row 1 (List.map eI b_1.pieces)⟩, ⟨.imm, 0, 2, .row 1 (List.map eI b_1.joints)⟩, ⟨.imm, 0, 0, .sc (.int .i64 b_1.last)⟩]⟩), (5, some ⟨0, 0, false, true, false, true, [⟨.imm, 0, 0, .sc (.int .i64 k_2.Board)⟩, ⟨.imm, 0, 0, .sc (.int .i64 k_2.Wide)⟩, ⟨.imm, 0, 0, .sc (.int .i64 k_2.Least)⟩, ⟨.imm, 0, 0, .sc (.int .i64 k_2.Stagger)⟩]⟩)]) (by first | rfl | simp [(byF iDec hc9)])))⟩
    · refine Unw.seq ?_
      by_cases hc10 : (i_7_l2 < (a_0.joints.length : Int) ∧ n_8_l2 < (b_1.joints.length : Int))
      · rw [if_pos hc10] at h
        refine Go.condT rfl ((iAnd iDec iDec).2 hc10) ?_
        refine Go.skip ?_
        refine Unw.seq ?_
        refine Go.block ?_
        refine Go.seq ?_
        refine Go.seq ?_
        obtain ⟨x24, hx24, h⟩ := bs h
        obtain ⟨x29, hx29, h⟩ := bs h
        obtain ⟨x32, hx32, h⟩ := bs h
        refine Go.dr c46 rfl rfl rfl rfl (mk [(3, .v false [.mp 3 0 0]), (4, .v false [.mp 4 0 0]), (5, .v false [.mp 5 0 0]), (7, iv i_7_l2), (8, iv n_8_l2), (35, bv (decide (x32 < k_2.Stagger)))] [(3, some ⟨0, 0, false, true, false, true, [⟨.imm, 0, 2, .row 1 (List.map eI a_0.pieces)⟩, ⟨.imm, 0, 2, .row 1 (List.map eI a_0.joints)⟩, ⟨.imm, 0, 0, .sc (.int .i64 a_0.last)⟩]⟩), (4, some ⟨0, 0, false, true, false, true, [⟨.imm, 0, 2, .row 1 (List.map eI b_1.pieces)⟩, ⟨.imm, 0, 2, .row 1 (List.map eI b_1.joints)⟩, ⟨.imm, 0, 0, .sc (.int .i64 b_1.last)⟩]⟩), (5, some ⟨0, 0, false, true, false, true, [⟨.imm, 0, 0, .sc (.int .i64 k_2.Board)⟩, ⟨.imm, 0, 0, .sc (.int .i64 k_2.Wide)⟩, ⟨.imm, 0, 0, .sc (.int .i64 k_2.Least)⟩, ⟨.imm, 0, 0, .sc (.int .i64 k_2.Stagger)⟩]⟩)]) (sT rfl (dN z46 rfl (oFA (r' := .mp 3 0 1) rfl fF53_1 rfl rfl)) <| sT rfl (dN z46 rfl (oLd (cs := [.im 2 _]) rfl tF26 rfl rfl)) <| sT rfl (dN z46 rfl (oMv rfl rfl)) <| sT rfl (dN z46 rfl (oIAI rfl hx24 sF26 rfl rfl)) <| sT rfl (dN z46 rfl (oLd (cs := [.im 2 _]) rfl tF2 rfl rfl)) <| sT rfl (dN z46 rfl (oFA (r' := .mp 4 0 1) rfl fF53_1 rfl rfl)) <| sT rfl (dN z46 rfl (oLd (cs := [.im 2 _]) rfl tF26 rfl rfl)) <| sT rfl (dN z46 rfl (oMv rfl rfl)) <| sT rfl (dN z46 rfl (oIAI rfl hx29 sF26 rfl rfl)) <| sT rfl (dN z46 rfl (oLd (cs := [.im 2 _]) rfl tF2 rfl rfl)) <| sT rfl (dN z46 rfl (oBi rfl rfl rfl rfl)) <| sT rfl (dN z46 rfl (oFA (r' := .mp 5 0 3) rfl fF31_3 rfl rfl)) <| sT rfl (dN z46 rfl (oLd (cs := [.im 0 _]) rfl tF2 rfl rfl)) <| sS (dN z46 rfl (oCa (xs := [.v false [.im 0 _]]) (vs := [(false, [.im 0 _])]) (v := .v false [.im 0 _]) (L_impl_absolute hx32) rfl rfl kF53_2 rfl (ppC rfl pp0) rfl rfl pb0 rfl rfl rfl)) (sT rfl (dN z46 rfl (oBi rfl rfl rfl rfl)) <| sD (by kernel_rfl))) ?_
        refine Unw.seq ?_
        by_cases hc11 : x32 < k_2.Stagger
        · rw [if_pos hc11] at h
          refine Go.condT rfl (iDec.2 hc11) ?_
          refine Go.seq ?_
          refine Go.r0 c46 rfl rfl (sq z46 (oAsI rfl rfl) <| nl) ?_
          refine Unw.seq ?_
          refine Go.ret (Unw.ret ?_)
          cases h
          exact ⟨rfl, (fin_of rfl rF46 rfl (by kernel_rfl))⟩
        · rw [if_neg hc11] at h
          refine Go.condF rfl (byF iDec hc11) ?_
          refine Go.skip ?_
          refine Unw.seq ?_
          refine Go.seq ?_
          obtain ⟨x39, hx39, h⟩ := bs h
          obtain ⟨x44, hx44, h⟩ := bs h
          refine Go.dr c46 rfl rfl rfl rfl (mk [(3, .v false [.mp 3 0 0]), (4, .v false [.mp 4 0 0]), (5, .v false [.mp 5 0 0]), (7, iv i_7_l2), (8, iv n_8_l2), (46, bv (decide (x39 < x44)))] [(3, some ⟨0, 0, false, true, false, true, [⟨.imm, 0, 2, .row 1 (List.map eI a_0.pieces)⟩, ⟨.imm, 0, 2, .row 1 (List.map eI a_0.joints)⟩, ⟨.imm, 0, 0, .sc (.int .i64 a_0.last)⟩]⟩), (4, some ⟨0, 0, false, true, false, true, [⟨.imm, 0, 2, .row 1 (List.map eI b_1.pieces)⟩, ⟨.imm, 0, 2, .row 1 (List.map eI b_1.joints)⟩, ⟨.imm, 0, 0, .sc (.int .i64 b_1.last)⟩]⟩), (5, some ⟨0, 0, false, true, false, true, [⟨.imm, 0, 0, .sc (.int .i64 k_2.Board)⟩, ⟨.imm, 0, 0, .sc (.int .i64 k_2.Wide)⟩, ⟨.imm, 0, 0, .sc (.int .i64 k_2.Least)⟩, ⟨.imm, 0, 0, .sc (.int .i64 k_2.Stagger)⟩]⟩)]) (sT rfl (dN z46 rfl (oFA (r' := .mp 3 0 1) rfl fF53_1 rfl rfl)) <| sT rfl (dN z46 rfl (oLd (cs := [.im 2 _]) rfl tF26 rfl rfl)) <| sT rfl (dN z46 rfl (oMv rfl rfl)) <| sT rfl (dN z46 rfl (oIAI rfl hx39 sF26 rfl rfl)) <| sT rfl (dN z46 rfl (oLd (cs := [.im 2 _]) rfl tF2 rfl rfl)) <| sT rfl (dN z46 rfl (oFA (r' := .mp 4 0 1) rfl fF53_1 rfl rfl)) <| sT rfl (dN z46 rfl (oLd (cs := [.im 2 _]) rfl tF26 rfl rfl)) <| sT rfl (dN z46 rfl (oMv rfl rfl)) <| sT rfl (dN z46 rfl (oIAI rfl hx44 sF26 rfl rfl)) <| sT rfl (dN z46 rfl (oLd (cs := [.im 2 _]) rfl tF2 rfl rfl)) <| sT rfl (dN z46 rfl (oBi rfl rfl rfl rfl)) <| sD (by kernel_rfl)) ?_
          refine Unw.seq ?_
          by_cases hc12 : x39 < x44
          · rw [if_pos hc12] at h
            refine Go.condT rfl (iDec.2 hc12) ?_
            refine Go.r0 c46 rfl rfl (sq z46 (oMv rfl rfl) <| sq z46 (oBi rfl rfl rfl rfl) <| sq z46 (oAsI rfl rfl) <| nl) ?_
            refine Unw.blk ?_
            refine Unw.nil ?_
            cases h
            exact ⟨rfl, (by kernel_rfl)⟩
          · rw [if_neg hc12] at h
            refine Go.condF rfl (byF iDec hc12) ?_
            refine Go.r0 c46 rfl rfl (sq z46 (oMv rfl rfl) <| sq z46 (oBi rfl rfl rfl rfl) <| sq z46 (oAsI rfl rfl) <| nl) ?_
            refine Unw.blk ?_
            refine Unw.nil ?_
            cases h
            exact ⟨rfl, (by kernel_rfl)⟩
      · rw [if_neg hc10] at h
        refine Go.condF rfl (byF (iAnd iDec iDec) hc10) ?_
        refine Go.exit ?_
        refine Unw.seqx ?_
        refine Unw.nil ?_
        cases h
        exact ⟨rfl, (by kernel_rfl)⟩
  · rintro ⟨e, st⟩ hp
    rcases o with u | r2
    · dsimp only at h
      obtain ⟨he, hst⟩ := hp
      obtain rfl : e = .exit 0 := he
      refine Unw.blkx ?_
      refine Unw.seq ?_
      refine Go.seq ?_
      refine Go.r1 c46 rfl rfl hst (sq z46 (oAsI rfl rfl) <| nl) ?_
      refine Unw.seq ?_
      refine Go.ret (Unw.ret ?_)
      cases h
      exact Fin_ret (fin_of rfl rF46 rfl (by kernel_rfl))
    · dsimp only at h
      obtain ⟨he, hfin⟩ := hp
      obtain rfl : e = .ret := he
      cases h
      exact Unw.ret (Fin_ret hfin)
theorem L_impl_possible {r_0 : S_Room} {k_1 : S_Stock} {before_2 : (Option S_row)} {first_3 : Int} {r : (S_row × Bool)} (h : impl_possible r_0 k_1 before_2 first_3 = some r) : FL Try.prog cfg 33 [.im 2 true [.sc (.int .i64 r_0.Width), .sc (.int .i64 r_0.Length)], .im 2 true [.sc (.int .i64 k_1.Board), .sc (.int .i64 k_1.Wide), .sc (.int .i64 k_1.Least), .sc (.int .i64 k_1.Stagger)], .im 2 false [eO e_S_row before_2], .im 2 false [.sc (.int .i64 first_3)]] = some ([(true, [.ow 0 1 (List.map eI r.1.pieces), .ow 0 1 (List.map eI r.1.joints), .im 0 (.sc (.int .i64 r.1.last))]), (false, [.im 0 (.sc (.bool r.2))])], []) := by
  unfold impl_possible at h
  refine FL_goS (A := [(0, .v true [.im 2 (.sc (.int .i64 r_0.Width)), .im 2 (.sc (.int .i64 r_0.Length))]), (1, .v true [.im 2 (.sc (.int .i64 k_1.Board)), .im 2 (.sc (.int .i64 k_1.Wide)), .im 2 (.sc (.int .i64 k_1.Least)), .im 2 (.sc (.int .i64 k_1.Stagger))]), (2, .v false [.im 2 (eO e_S_row before_2)]), (3, .v false [.im 2 (.sc (.int .i64 first_3))])]) (B := [(0, none), (1, none), (2, none), (3, none)]) (nt := 34) rfl rfl Try.func33 rfl rfl rfl rfl ?_
  refine Go.seq ?_
  refine Go.r0 c33 rfl rfl (sq z33 (oBx rfl tF29 rfl (tkI (tkI tk0))) <| sq z33 (oBx rfl tF31 rfl (tkI (tkI (tkI (tkI tk0))))) <| sq z33 (oAl rfl tF53 (tkN (tkN (tkI tk0)))) <| sq z33 (oAsI rfl rfl) <| nl) ?_
  refine Unw.seq ?_
  refine Go.seq ?_
  obtain ⟨x16, hx16, h⟩ := bs h
  refine Go.r0 c33 rfl rfl (sq z33 (oLd (cs := [.im 0 _, .im 0 _]) rfl tF29 rfl rfl) <| sq z33 (oLd (cs := [.im 0 _, .im 0 _, .im 0 _, .im 0 _]) rfl tF31 rfl rfl) <| sq z33 (oMv rfl rfl) <| sq z33 (oCr (xs := [.v true [.im 0 _, .im 0 _], .v true [.im 0 _, .im 0 _, .im 0 _, .im 0 _], .v false [.im 2 _]]) (vs := [(true, [.own 16 0 0, .own 16 0 1, .im 0 _]), (false, [.im 0 _])]) (v := .tup [(true, [.own 16 0 0, .own 16 0 1, .im 0 _]), (false, [.im 0 _])]) (c := ⟨.sh, 0, _⟩) (cs := [⟨.sh, 0, _⟩]) (L_impl_makeRow hx16) rfl rfl kF45_29_31_2 rfl (ppC rfl (ppC rfl (ppC rfl pp0))) rfl rfl pb0 rfl rfl rfl) <| sq z33 (oMvT rfl rfl) <| sq z33 (oEx rfl rfl rfl) <| sq z33 (oEx rfl rfl rfl) <| sq z33 (oAl rfl tF53 (tkN (tkN (tkI tk0)))) <| sq z33 (oSt tF53 rfl rfl rfl (tkO rfl rfl (tkO rfl rfl (tkI tk0))) rfl rfl rfl) <| sq z33 (oAsI rfl rfl) <| nl) ?_
  refine Unw.seq ?_
  refine Go.seq ?_
  obtain ⟨t_9_m2, hm3, h⟩ := bs h
  refine Go.dr c33 rfl rfl rfl (st1 := mk [(2, .v false [.im (tagOf 2 (eO e_S_row before_2)) (eO e_S_row before_2)]), (5, .v false [.mp 5 0 0]), (8, .v false [.mp 8 0 0]), (10, .v false [.mp 10 0 0]), (11, iv x16.2)] [(5, some ⟨0, 0, false, true, false, true, [⟨.imm, 0, 0, .sc (.int .i64 k_1.Board)⟩, ⟨.imm, 0, 0, .sc (.int .i64 k_1.Wide)⟩, ⟨.imm, 0, 0, .sc (.int .i64 k_1.Least)⟩, ⟨.imm, 0, 0, .sc (.int .i64 k_1.Stagger)⟩]⟩), (8, some ⟨0, 0, false, true, false, true, [⟨.sh, 0, 0, .row 1 (List.map eI ([] : List Int))⟩, ⟨.sh, 0, 0, .row 1 (List.map eI ([] : List Int))⟩, ⟨.imm, 0, 0, .sc (.int .i64 0)⟩]⟩), (10, some ⟨0, 0, false, true, false, true, [⟨.sh, 0, 0, .row 1 (List.map eI x16.1.pieces)⟩, ⟨.sh, 0, 0, .row 1 (List.map eI x16.1.joints)⟩, ⟨.imm, 0, 0, .sc (.int .i64 x16.1.last)⟩]⟩)]) (by kernel_rfl) (mk [(8, .v false [.mp 8 0 0]), (9, bv t_9_m2)] [(8, some ⟨0, 0, false, true, false, true, [⟨.sh, 0, 0, .row 1 (List.map eI x16.1.pieces)⟩, ⟨.sh, 0, 0, .row 1 (List.map eI x16.1.joints)⟩, ⟨.imm, 0, 0, .sc (.int .i64 x16.1.last)⟩]⟩)]) ?_ ?_
  · by_cases hc1 : x16.2 = 0
    · rw [if_pos hc1] at hm3
      cases before_2 with
      | none =>
        cases hm3
        exact sT rfl (dN z33 rfl (oLd (cs := [.own 10 0 0, .own 10 0 1, .im 0 _]) rfl tF53 rfl rfl)) <| sT rfl (dN z33 rfl (oMv rfl rfl)) <| sT rfl (dN z33 rfl (oBi rfl rfl rfl rfl)) <| sT rfl (dN z33 rfl (oMv rfl rfl)) <| sT rfl (dT z33 rfl rfl rfl (iEq.2 hc1) (oMv rfl rfl)) <| sT rfl (dT z33 rfl rfl rfl (iEq.2 hc1) (oBiU rfl uF60 rfl rfl rfl)) <| sT rfl (dT z33 rfl rfl rfl (iEq.2 hc1) (oMv rfl rfl)) <| sT rfl (dF rfl rfl rfl rfl rfl) <| sT rfl (dF rfl rfl rfl rfl rfl) <| sT rfl (dF rfl rfl rfl rfl rfl) <| sT rfl (dF rfl rfl rfl rfl rfl) <| sT rfl (dF rfl rfl rfl rfl rfl) <| sS (dF rfl rfl rfl rfl rfl) (sT rfl (dT z33 rfl rfl rfl (iEq.2 hc1) (oPkT rfl rfl rfl rfl)) <| sT rfl (dN z33 rfl (oPkT rfl rfl (iEq.2 hc1) rfl)) <| sS (dN z33 rfl (oSt tF53 rfl rfl rfl (tkO rfl rfl (tkO rfl rfl (tkI tk0))) rfl rfl rfl)) (sS (dN z33 rfl (oAsI rfl rfl)) (sD (by first | (cases before_2 <;> kernel_rfl) | kernel_rfl))))
      | some ohc2 =>
        obtain ⟨x31, hx31, hm3⟩ := bs hm3
        cases hm3
        exact sT rfl (dN z33 rfl (oLd (cs := [.own 10 0 0, .own 10 0 1, .im 0 _]) rfl tF53 rfl rfl)) <| sT rfl (dN z33 rfl (oMv rfl rfl)) <| sT rfl (dN z33 rfl (oBi rfl rfl rfl rfl)) <| sT rfl (dN z33 rfl (oMv rfl rfl)) <| sT rfl (dT z33 rfl rfl rfl (iEq.2 hc1) (oMv rfl rfl)) <| sT rfl (dT z33 rfl rfl rfl (iEq.2 hc1) (oBiU rfl uF60 rfl rfl rfl)) <| sT rfl (dT z33 rfl rfl rfl (iEq.2 hc1) (oMv rfl rfl)) <| sT rfl (dT z33 rfl rfl rfl rfl (oMv rfl rfl)) <| sT rfl (dT z33 rfl rfl rfl rfl (oNl rfl rfl rfl)) <| sT rfl (dT z33 rfl rfl rfl rfl (oLd (cs := [.im _ _, .im _ _, .im _ _]) rfl tF53 rfl rfl)) <| sT rfl (dT z33 rfl rfl rfl rfl (oLd (cs := [.own 10 0 0, .own 10 0 1, .im 0 _]) rfl tF53 rfl rfl)) <| sT rfl (dT z33 rfl rfl rfl rfl (oLd (cs := [.im 0 _, .im 0 _, .im 0 _, .im 0 _]) rfl tF31 rfl rfl)) <| sS (dT z33 rfl rfl rfl rfl (oCa (xs := [.v true [.im _ _, .im _ _, .im _ _], .v true [.own 10 0 0, .own 10 0 1, .im 0 _], .v true [.im 0 _, .im 0 _, .im 0 _, .im 0 _]]) (vs := [(false, [.im 0 _])]) (v := .v false [.im 0 _]) (L_impl_staggered hx31) rfl rfl kF46_53_53_31 rfl (ppC rfl (ppC rfl (ppC rfl pp0))) rfl rfl pb0 rfl rfl rfl)) (sT rfl (dT z33 rfl rfl rfl (iEq.2 hc1) (oPkF rfl rfl rfl rfl)) <| sT rfl (dN z33 rfl (oPkT rfl rfl (iEq.2 hc1) rfl)) <| sS (dN z33 rfl (oSt tF53 rfl rfl rfl (tkO rfl rfl (tkO rfl rfl (tkI tk0))) rfl rfl rfl)) (sS (dN z33 rfl (oAsI rfl rfl)) (sD (by first | (cases before_2 <;> kernel_rfl) | kernel_rfl))))
    · rw [if_neg hc1] at hm3
      cases hm3
      exact sT rfl (dN z33 rfl (oLd (cs := [.own 10 0 0, .own 10 0 1, .im 0 _]) rfl tF53 rfl rfl)) <| sT rfl (dN z33 rfl (oMv rfl rfl)) <| sT rfl (dN z33 rfl (oBi rfl rfl rfl rfl)) <| sT rfl (dN z33 rfl (oMv rfl rfl)) <| sT rfl (dF rfl rfl rfl (byF iEq hc1) rfl) <| sT rfl (dF rfl rfl rfl (byF iEq hc1) rfl) <| sT rfl (dF rfl rfl rfl (byF iEq hc1) rfl) <| sT rfl (dU rfl rfl rfl rfl) <| sT rfl (dU rfl rfl rfl rfl) <| sT rfl (dU rfl rfl rfl rfl) <| sT rfl (dU rfl rfl rfl rfl) <| sT rfl (dU rfl rfl rfl rfl) <| sS (dU rfl rfl rfl rfl) (sT rfl (dF rfl rfl rfl (byF iEq hc1) rfl) <| sT rfl (dN z33 rfl (oPkF rfl rfl (byF iEq hc1) rfl)) <| sS (dN z33 rfl (oSt tF53 rfl rfl rfl (tkO rfl rfl (tkO rfl rfl (tkI tk0))) rfl rfl rfl)) (sS (dN z33 rfl (oAsI rfl rfl)) (sD (by first | (cases before_2 <;> kernel_rfl) | kernel_rfl))))
  · refine Unw.seq ?_
    refine Go.ret (Unw.ret ?_)
    cases h
    exact Fin_ret (fin_of rfl rF33 rfl (by kernel_rfl))
theorem L_impl_row_left {x_0 : S_row} {k_1 : S_Stock} {r : Int} (h : impl_row_left x_0 k_1 = some r) : FL Try.prog cfg 32 [.im 2 true [.row 1 (List.map eI x_0.pieces), .row 1 (List.map eI x_0.joints), .sc (.int .i64 x_0.last)], .im 2 true [.sc (.int .i64 k_1.Board), .sc (.int .i64 k_1.Wide), .sc (.int .i64 k_1.Least), .sc (.int .i64 k_1.Stagger)]] = some ([(false, [.im 0 (.sc (.int .i64 r))])], []) := by
  unfold impl_row_left at h
  refine FL_goS (A := [(0, .v true [.im 2 (.row 1 (List.map eI x_0.pieces)), .im 2 (.row 1 (List.map eI x_0.joints)), .im 2 (.sc (.int .i64 x_0.last))]), (1, .v true [.im 2 (.sc (.int .i64 k_1.Board)), .im 2 (.sc (.int .i64 k_1.Wide)), .im 2 (.sc (.int .i64 k_1.Least)), .im 2 (.sc (.int .i64 k_1.Stagger))])]) (B := [(0, none), (1, none)]) (nt := 14) rfl rfl Try.func32 rfl rfl rfl rfl ?_
  refine Go.seq ?_
  refine Go.r0 c32 rfl rfl (sq z32 (oBx rfl tF53 rfl (tkI (tkI (tkI tk0)))) <| sq z32 (oBx rfl tF31 rfl (tkI (tkI (tkI (tkI tk0))))) <| sq z32 (oAsI rfl rfl) <| nl) ?_
  refine Unw.seq ?_
  refine Go.seq ?_
  refine Go.seq ?_
  refine Go.r0 c32 rfl rfl (sq z32 (oFA (r' := .mp 2 0 0) rfl fF53_0 rfl rfl) <| sq z32 (oLd (cs := [.im 2 _]) rfl tF26 rfl rfl) <| sq z32 (oLnI rfl rfl uF26 rfl) <| sq z32 (oBi rfl rfl rfl rfl) <| nl) ?_
  refine Unw.seq ?_
  by_cases hc1 : (x_0.pieces.length : Int) = 1
  · rw [if_pos hc1] at h
    refine Go.condT rfl (iEq.2 hc1) ?_
    refine Go.seq ?_
    refine Go.r0 c32 rfl rfl (sq z32 (oAsI rfl rfl) <| nl) ?_
    refine Unw.seq ?_
    refine Go.ret (Unw.ret ?_)
    cases h
    exact Fin_ret (fin_of rfl rF32 rfl (by kernel_rfl))
  · rw [if_neg hc1] at h
    refine Go.condF rfl (byF iEq hc1) ?_
    refine Go.skip ?_
    refine Unw.seq ?_
    refine Go.seq ?_
    refine Go.r0 c32 rfl rfl (sq z32 (oFA (r' := .mp 3 0 0) rfl fF31_0 rfl rfl) <| sq z32 (oLd (cs := [.im 0 _]) rfl tF2 rfl rfl) <| sq z32 (oFA (r' := .mp 2 0 2) rfl fF53_2 rfl rfl) <| sq z32 (oLd (cs := [.im 0 _]) rfl tF2 rfl rfl) <| sq z32 (oBi rfl rfl rfl rfl) <| sq z32 (oAsI rfl rfl) <| nl) ?_
    refine Unw.seq ?_
    refine Go.ret (Unw.ret ?_)
    cases h
    exact Fin_ret (fin_of rfl rF32 rfl (by kernel_rfl))
theorem L_impl_boards {before_0 : S_row} {x_1 : S_row} {k_2 : S_Stock} {r : Int} (h : impl_boards before_0 x_1 k_2 = some r) : FL Try.prog cfg 26 [.im 2 true [.row 1 (List.map eI before_0.pieces), .row 1 (List.map eI before_0.joints), .sc (.int .i64 before_0.last)], .im 2 true [.row 1 (List.map eI x_1.pieces), .row 1 (List.map eI x_1.joints), .sc (.int .i64 x_1.last)], .im 2 true [.sc (.int .i64 k_2.Board), .sc (.int .i64 k_2.Wide), .sc (.int .i64 k_2.Least), .sc (.int .i64 k_2.Stagger)]] = some ([(false, [.im 0 (.sc (.int .i64 r))])], []) := by
  unfold impl_boards at h
  refine FL_goS (A := [(0, .v true [.im 2 (.row 1 (List.map eI before_0.pieces)), .im 2 (.row 1 (List.map eI before_0.joints)), .im 2 (.sc (.int .i64 before_0.last))]), (1, .v true [.im 2 (.row 1 (List.map eI x_1.pieces)), .im 2 (.row 1 (List.map eI x_1.joints)), .im 2 (.sc (.int .i64 x_1.last))]), (2, .v true [.im 2 (.sc (.int .i64 k_2.Board)), .im 2 (.sc (.int .i64 k_2.Wide)), .im 2 (.sc (.int .i64 k_2.Least)), .im 2 (.sc (.int .i64 k_2.Stagger))])]) (B := [(0, none), (1, none), (2, none)]) (nt := 22) rfl rfl Try.func26 rfl rfl rfl rfl ?_
  refine Go.seq ?_
  refine Go.r0 c26 rfl rfl (sq z26 (oBx rfl tF53 rfl (tkI (tkI (tkI tk0)))) <| sq z26 (oBx rfl tF53 rfl (tkI (tkI (tkI tk0)))) <| sq z26 (oBx rfl tF31 rfl (tkI (tkI (tkI (tkI tk0))))) <| sq z26 (oAsI rfl rfl) <| nl) ?_
  refine Unw.seq ?_
  refine Go.seq ?_
  refine Go.r0 c26 rfl rfl (sq z26 (oFA (r' := .mp 4 0 0) rfl fF53_0 rfl rfl) <| sq z26 (oLd (cs := [.im 2 _]) rfl tF26 rfl rfl) <| sq z26 (oLnI rfl rfl uF26 rfl) <| sq z26 (oAsI rfl rfl) <| nl) ?_
  refine Unw.seq ?_
  refine Go.seq ?_
  refine Go.seq ?_
  obtain ⟨x13, hx13, h⟩ := bs h
  obtain ⟨x17, hx17, h⟩ := bs h
  refine Go.dr c26 rfl rfl rfl rfl (mk [(7, iv (x_1.pieces.length : Int)), (18, bv (decide (x13 ≤ x17)))] []) (sT rfl (dN z26 rfl (oFA (r' := .mp 4 0 0) rfl fF53_0 rfl rfl)) <| sT rfl (dN z26 rfl (oLd (cs := [.im 2 _]) rfl tF26 rfl rfl)) <| sT rfl (dN z26 rfl (oIAI rfl hx13 sF26 rfl rfl)) <| sT rfl (dN z26 rfl (oLd (cs := [.im 2 _]) rfl tF2 rfl rfl)) <| sT rfl (dN z26 rfl (oLd (cs := [.im 2 _, .im 2 _, .im 0 _]) rfl tF53 rfl rfl)) <| sT rfl (dN z26 rfl (oLd (cs := [.im 0 _, .im 0 _, .im 0 _, .im 0 _]) rfl tF31 rfl rfl)) <| sS (dN z26 rfl (oCa (xs := [.v true [.im 2 _, .im 2 _, .im 0 _], .v true [.im 0 _, .im 0 _, .im 0 _, .im 0 _]]) (vs := [(false, [.im 0 _])]) (v := .v false [.im 0 _]) (L_impl_row_left hx17) rfl rfl kF32_53_31 rfl (ppC rfl (ppC rfl pp0)) rfl rfl pb0 rfl rfl rfl)) (sT rfl (dN z26 rfl (oBi rfl rfl rfl rfl)) <| sD (by kernel_rfl))) ?_
  refine Unw.seq ?_
  refine Go.join (fun st => ∃ out_7_r4, impl_boards_k4 out_7_r4 = some r ∧ st.norm ([7], []) = mk [(7, iv out_7_r4)] []) ?_ ?_
  · rintro st ⟨out_7_r4, h, hst⟩
    unfold impl_boards_k4 at h
    refine Unw.seq ?_
    refine Go.seq ?_
    refine Go.r1 c26 rfl rfl hst (sq z26 (oMv rfl rfl) <| sq z26 (oAsI rfl rfl) <| nl) ?_
    refine Unw.seq ?_
    refine Go.ret (Unw.ret ?_)
    cases h
    exact Fin_ret (fin_of rfl rF26 rfl (by kernel_rfl))
  · intro K2
    by_cases hc3 : x13 ≤ x17
    · rw [if_pos hc3] at h
      refine Go.condT rfl (iDec.2 hc3) ?_
      refine Go.r0 c26 rfl rfl (sq z26 (oMv rfl rfl) <| sq z26 (oBi rfl rfl rfl rfl) <| sq z26 (oAsI rfl rfl) <| nl) ?_
      exact K2 _ ⟨(w64 ((x_1.pieces.length : Int) - 1)), h, (by kernel_rfl)⟩
    · rw [if_neg hc3] at h
      refine Go.condF rfl (byF iDec hc3) ?_
      refine Go.skip ?_
      exact K2 _ ⟨(x_1.pieces.length : Int), h, (by kernel_rfl)⟩
end
end Go.Proofs.Yteglmkbkjaeijab
