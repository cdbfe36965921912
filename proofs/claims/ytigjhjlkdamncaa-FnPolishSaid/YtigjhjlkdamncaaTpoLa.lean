/- The machine answers, at each function of the program that is reached, what its plain function answers. Conditions: none. -/
import Derived.Test.YtigjhjlkdamncaaProg
import Derived.KernelRfl
import Derived.Test.YtigjhjlkdamncaaSimRf
import Derived.Test.YtigjhjlkdamncaaTpoT
namespace Go.Proofs.Ytigjhjlkdamncaa
open Go Go.Sim Go.Pw Go.Proofs
set_option linter.unusedVariables false
set_option linter.unusedSimpArgs false
set_option maxRecDepth 100000
set_option maxHeartbeats 4000000
noncomputable section

def e_S_Coat (x : S_Coat) : AV := .agg [.sc (.string x.Name), .sc (.int .i64 x.Work), .sc (.int .i64 x.Dry), .sc (.int .i64 x.Wait)]
def e_S_l00Src (x : S_l00Src) : AV := .agg [.row 1 (List.map (eK .u8) x.code), .sc (.int .i64 x.at_), .sc (.int .u64 x.seed)]
def e_S_coatSearch (x : S_coatSearch) : AV := .agg [.row 4 (List.map e_S_Coat x.list), .sc (.int .i64 x.open_), .sc (.int .i64 x.end_), .sc (.int .i64 x.left)]

def fc3 : FCfg := { par := [.cst false, .cst false], inn := [(15, some ([1], []))], out := [(1, some ([0, 1, 29], [])), (6, some ([1, 5, 6, 10, 11, 12, 13, 78], [5, 10, 12])), (8, some ([1, 5, 6, 12, 13, 94], [5, 12])), (13, some ([1, 125], [])), (19, some ([4], []))], loopK := [], frz := [], sch := [] }
def fc14 : FCfg := { par := [.cst false], inn := [], out := [], loopK := [], frz := [], sch := [] }
def fc15 : FCfg := { par := [.cst false], inn := [(3, some ([7, 8, 9, 10, 11], [8, 13]))], out := [], loopK := [], frz := [], sch := [] }
def fc16 : FCfg := { par := [.cst false, .cst false, .cst false, .cst false], inn := [(8, some ([2, 3, 11, 12, 13, 15, 27, 28, 29], [11, 15])), (14, some ([11], [11]))], out := [(9, some ([2, 3, 11, 15, 16, 27, 28, 29, 45], [11, 15])), (12, some ([2, 3, 11, 12, 13, 27, 28, 29], [11]))], loopK := [(6, ([2, 3, 11, 12, 13, 27, 28, 29], [11]))], frz := [], sch := [(12, .first 0 [3, 6, 14, 15] [1, 2, 4, 5, 7, 8, 9, 10, 11, 12, 13] (.first 1 [2, 3, 6, 14, 15] [4, 5, 7, 8, 9, 10, 11, 12, 13] (.first 2 [3, 6, 14, 15] [4, 5, 7, 8, 9, 10, 11, 12, 13] (.first 3 [6, 14, 15] [4, 5, 7, 8, 9, 10, 11, 12, 13] (.first 4 [5, 6, 14, 15] [7, 8, 9, 10, 11, 12, 13] (.first 5 [6, 14, 15] [7, 8, 9, 10, 11, 12, 13] (.first 6 [14, 15] [7, 8, 9, 10, 11, 12, 13] (.first 7 [10, 13, 15] [8, 9, 11, 12, 14] (.first 8 [9, 10, 13, 15] [11, 12, 14] (.first 9 [10, 13, 15] [11, 12, 14] (.first 10 [13, 15] [11, 12, 14] (.first 11 [12, 13, 15] [14] (.first 12 [13, 15] [14] (.first 13 [15] [14] (.fork 14 (.fork 15 (.done) (.stop)) (.stop))))))))))))))))] }
def fc17 : FCfg := { par := [.cst false, .cst false, .cst false, .cst false, .cst false], inn := [], out := [], loopK := [], frz := [], sch := [] }
def fc18 : FCfg := { par := [.cst false, .cst false, .cst false, .cst false, .cst false], inn := [(10, some ([0, 1, 2, 3, 4, 11, 12, 13, 35, 36, 37], [13])), (12, some ([0, 1, 2, 3, 4, 35, 36, 37], [])), (13, some ([], []))], out := [(1, some ([0, 1, 2, 3, 4, 34], [])), (6, some ([0, 1, 2, 3, 4, 11, 12, 35, 36, 37, 56], [])), (10, some ([0, 1, 2, 3, 4, 35, 36, 37, 82], []))], loopK := [(4, ([0, 1, 2, 3, 4, 35, 36, 37], []))], frz := [], sch := [(10, .first 0 [6, 17, 18] [1, 2, 3, 4, 5, 7, 8, 9, 10, 11, 12, 13, 14, 15, 16] (.first 1 [4, 5, 6, 17, 18] [2, 3, 7, 8, 9, 10, 11, 12, 13, 14, 15, 16] (.first 2 [3, 4, 5, 6, 17, 18] [7, 8, 9, 10, 11, 12, 13, 14, 15, 16] (.first 3 [4, 5, 6, 17, 18] [7, 8, 9, 10, 11, 12, 13, 14, 15, 16] (.first 4 [5, 6, 17, 18] [7, 8, 9, 10, 11, 12, 13, 14, 15, 16] (.first 5 [6, 17, 18] [7, 8, 9, 10, 11, 12, 13, 14, 15, 16] (.first 6 [17, 18] [7, 8, 9, 10, 11, 12, 13, 14, 15, 16] (.first 7 [8, 11, 17, 18] [9, 10, 12, 13, 14, 15, 16] (.first 8 [11, 17, 18] [9, 10, 12, 13, 14, 15, 16] (.first 9 [10, 11, 17, 18] [12, 13, 14, 15, 16] (.first 10 [11, 17, 18] [12, 13, 14, 15, 16] (.first 11 [17, 18] [12, 13, 14, 15, 16] (.first 12 [13, 16, 17, 18] [14, 15] (.first 13 [16, 17, 18] [14, 15] (.first 14 [15, 16, 17, 18] [] (.first 15 [16, 17, 18] [] (.first 16 [17, 18] [] (.fork 17 (.first 18 [] [] (.done)) (.stop)))))))))))))))))))] }
def fc19 : FCfg := { par := [.cst false, .cst false], inn := [(8, some ([], []))], out := [(6, some ([0, 1, 5, 25], []))], loopK := [(4, ([0, 1, 5], []))], frz := [], sch := [(6, .first 0 [2, 3, 8] [1, 4, 5, 6, 7] (.first 1 [2, 3, 8] [4, 5, 6, 7] (.first 2 [3, 8] [4, 5, 6, 7] (.first 3 [8] [4, 5, 6, 7] (.first 4 [6, 7, 8] [5] (.first 5 [6, 7, 8] [] (.first 6 [7, 8] [] (.first 7 [8] [] (.first 8 [] [] (.done))))))))))] }
def fc20 : FCfg := { par := [.cst false, .cst false], inn := [], out := [(3, some ([0, 1, 18], [])), (8, some ([4, 5], []))], loopK := [], frz := [], sch := [(8, .first 0 [2, 3, 9, 10, 11] [1, 4, 5, 6, 7, 8] (.first 1 [2, 3, 9, 10, 11] [4, 5, 6, 7, 8] (.first 2 [3, 9, 10, 11] [4, 5, 6, 7, 8] (.first 3 [9, 10, 11] [4, 5, 6, 7, 8] (.first 4 [6, 7, 8, 9, 10, 11] [5] (.first 5 [6, 7, 8, 9, 10, 11] [] (.first 6 [7, 8, 9, 10, 11] [] (.first 7 [8, 9, 10, 11] [] (.first 8 [9, 10, 11] [] (.first 9 [10, 11] [] (.fork 10 (.fork 11 (.done) (.stop)) (.stop))))))))))))] }
def fc21 : FCfg := { par := [.cst false], inn := [(7, some ([4, 6, 10, 11, 12], [6])), (9, some ([4], []))], out := [], loopK := [(5, ([4, 10, 11, 12], []))], frz := [], sch := [] }
def fc22 : FCfg := { par := [.cst false], inn := [(3, some ([6, 7], [11])), (4, some ([6, 7, 8, 9], [11]))], out := [], loopK := [], frz := [], sch := [] }
def fc23 : FCfg := { par := [.cst false, .cst false, .cst false, .cst false], inn := [], out := [(1, some ([0, 1, 2, 3, 10], []))], loopK := [], frz := [], sch := [] }
def fc85 : FCfg := { par := [.cst false], inn := [], out := [], loopK := [], frz := [], sch := [] }
def fc86 : FCfg := { par := [.ptr [.imm, .imm, .imm]], inn := [(2, some ([0, 6], [0, 6])), (3, some ([0, 6, 7], [0, 6])), (4, some ([6, 7, 8, 9], [0, 6]))], out := [], loopK := [], frz := [], sch := [] }
def fc87 : FCfg := { par := [.ptr [.imm, .imm, .imm]], inn := [(2, some ([0], [0])), (3, some ([0], [0]))], out := [], loopK := [], frz := [], sch := [] }
def fc88 : FCfg := { par := [.cst false, .cst false, .cst false, .cst false, .cst false], inn := [], out := [(3, some ([0, 7, 8, 15], [7, 8]))], loopK := [], frz := [], sch := [] }
def fc89 : FCfg := { par := [.cst false, .cst false, .cst false, .cst false], inn := [], out := [], loopK := [], frz := [], sch := [] }
def fc90 : FCfg := { par := [.ptr [.imm, .imm, .imm, .imm], .mv, .cst false, .cst false], inn := [(4, some ([0, 1, 2, 3, 10], [0, 1, 10])), (6, some ([0, 1, 3, 10, 11], [0, 1, 10])), (11, some ([0, 1, 3, 10, 11], [0, 1, 10])), (14, some ([], [0]))], out := [(7, some ([0, 1, 3, 10, 11, 49], [0, 1, 10])), (11, some ([0, 1, 3, 10, 11, 12, 13], [0, 1, 10, 12]))], loopK := [(5, ([0, 1, 3, 10, 11], [0, 1, 10]))], frz := [], sch := [(7, .first 0 [11, 12] [1, 2, 3, 4, 5, 6, 7, 8, 9, 10] (.first 1 [2, 3, 4, 11, 12] [5, 6, 7, 8, 9, 10] (.first 2 [3, 4, 11, 12] [5, 6, 7, 8, 9, 10] (.first 3 [4, 11, 12] [5, 6, 7, 8, 9, 10] (.first 4 [11, 12] [5, 6, 7, 8, 9, 10] (.first 5 [6, 7, 8, 11, 12] [9, 10] (.first 6 [7, 8, 11, 12] [9, 10] (.first 7 [8, 11, 12] [9, 10] (.first 8 [11, 12] [9, 10] (.first 9 [10, 11, 12] [] (.first 10 [11, 12] [] (.fork 11 (.first 12 [] [] (.done)) (.stop))))))))))))), (11, .first 0 [20, 21, 22, 23, 24, 25] [1, 2, 3, 4, 5, 6, 7, 8, 9, 10, 11, 12, 13, 14, 15, 16, 17, 18, 19] (.first 1 [2, 5, 20, 21, 22, 23, 24, 25] [3, 4, 6, 7, 8, 9, 10, 11, 12, 13, 14, 15, 16, 17, 18, 19] (.first 3 [4, 5, 20, 21, 22, 23, 24, 25] [2, 6, 7, 8, 9, 10, 11, 12, 13, 14, 15, 16, 17, 18, 19] (.first 6 [9, 12, 20, 21, 22, 23, 24, 25] [2, 4, 5, 7, 8, 10, 11, 13, 14, 15, 16, 17, 18, 19] (.first 13 [16, 19, 20, 21, 22, 23, 24, 25] [2, 4, 5, 7, 8, 9, 10, 11, 12, 14, 15, 17, 18] (.first 7 [8, 9, 12, 20, 21, 22, 23, 24, 25] [2, 4, 5, 10, 11, 14, 15, 16, 17, 18, 19] (.first 8 [9, 12, 20, 21, 22, 23, 24, 25] [2, 4, 5, 10, 11, 14, 15, 16, 17, 18, 19] (.first 9 [12, 20, 21, 22, 23, 24, 25] [2, 4, 5, 10, 11, 14, 15, 16, 17, 18, 19] (.first 10 [11, 12, 20, 21, 22, 23, 24, 25] [2, 4, 5, 14, 15, 16, 17, 18, 19] (.first 11 [12, 20, 21, 22, 23, 24, 25] [2, 4, 5, 14, 15, 16, 17, 18, 19] (.first 12 [20, 21, 22, 23, 24, 25] [2, 4, 5, 14, 15, 16, 17, 18, 19] (.first 14 [15, 16, 19, 20, 21, 22, 23, 24, 25] [2, 4, 5, 17, 18] (.first 15 [16, 19, 20, 21, 22, 23, 24, 25] [2, 4, 5, 17, 18] (.first 16 [19, 20, 21, 22, 23, 24, 25] [2, 4, 5, 17, 18] (.first 17 [18, 19, 20, 21, 22, 23, 24, 25] [2, 4, 5] (.first 18 [19, 20, 21, 22, 23, 24, 25] [2, 4, 5] (.first 19 [20, 21, 22, 23, 24, 25] [2, 4, 5] (.fork 2 (.fork 4 (.fork 5 (.fork 20 (.first 21 [22, 23, 24, 25] [] (.first 22 [24, 25] [23] (.first 23 [25] [24] (.fork 24 (.fork 25 (.done) (.stop)) (.stop))))) (.stop)) (.stop)) (.stop)) (.fork 4 (.fork 2 (.fork 5 (.fork 20 (.first 21 [22, 23, 24, 25] [] (.first 22 [24, 25] [23] (.first 23 [25] [24] (.fork 24 (.fork 25 (.done) (.stop)) (.stop))))) (.stop)) (.stop)) (.stop)) (.stop))))))))))))))))))))] }
def fc91 : FCfg := { par := [.cst false], inn := [], out := [(1, some ([2], []))], loopK := [], frz := [], sch := [] }
def fc92 : FCfg := { par := [.cst false, .cst false, .cst false], inn := [], out := [(1, some ([6], []))], loopK := [], frz := [], sch := [] }
def fc93 : FCfg := { par := [.cst false, .cst false], inn := [], out := [(1, some ([4], []))], loopK := [], frz := [], sch := [] }
def fc94 : FCfg := { par := [.cst false, .cst false, .cst false, .cst false], inn := [], out := [(1, some ([8], []))], loopK := [], frz := [], sch := [] }
def fc95 : FCfg := { par := [.cst false, .cst false], inn := [], out := [], loopK := [], frz := [], sch := [] }
def fc96 : FCfg := { par := [.cst false], inn := [], out := [], loopK := [], frz := [], sch := [] }
def fc97 : FCfg := { par := [.ptr [.imm, .imm, .imm]], inn := [(2, some ([0], [0])), (3, some ([0], [0]))], out := [], loopK := [], frz := [], sch := [] }
def fc98 : FCfg := { par := [.ptr [.imm, .imm, .imm]], inn := [(2, some ([0], [0])), (3, some ([0, 4], [0])), (4, some ([0], [0])), (5, some ([0, 5], [0]))], out := [], loopK := [], frz := [], sch := [] }
def fc99 : FCfg := { par := [.ptr [.imm, .imm, .imm], .cst false], inn := [], out := [], loopK := [], frz := [], sch := [] }
def fc150 : FCfg := { par := [.cst false, .cst false], inn := [(7, some ([], []))], out := [], loopK := [(2, ([0, 1, 7, 8], []))], frz := [], sch := [] }
def fc182 : FCfg := { par := [.ptr [.imm, .imm, .imm]], inn := [(4, some ([0, 3, 4], [0, 3])), (6, some ([0, 3], [0, 3])), (7, some ([0], [0])), (8, some ([5], [0])), (13, some ([3], [0, 3]))], out := [], loopK := [(3, ([0, 3, 4], [0, 3])), (10, ([3, 5, 6], [0, 3]))], frz := [], sch := [] }
def fc183 : FCfg := { par := [.ptr [.imm, .imm, .imm], .cst false], inn := [], out := [], loopK := [], frz := [], sch := [] }
def fc184 : FCfg := { par := [.ptr [.imm, .imm, .imm], .cst false], inn := [(4, some ([0, 1, 5], [0])), (6, some ([1, 5], [0]))], out := [], loopK := [], frz := [], sch := [] }
def fc185 : FCfg := { par := [.cst false, .cst false], inn := [], out := [], loopK := [], frz := [], sch := [] }
def fc186 : FCfg := { par := [.cst false], inn := [], out := [], loopK := [], frz := [], sch := [] }
def fc188 : FCfg := { par := [.cst false], inn := [], out := [], loopK := [], frz := [], sch := [] }
def fc189 : FCfg := { par := [.cst false], inn := [], out := [(1, some ([2], []))], loopK := [], frz := [], sch := [] }
def fc239 : FCfg := { par := [.ptr [.imm, .imm, .imm], .cst false], inn := [], out := [], loopK := [], frz := [], sch := [] }
def fc247 : FCfg := { par := [.ptr [.imm, .imm, .imm]], inn := [(2, some ([0, 2, 3], [0, 2, 3])), (3, some ([0, 2, 3], [0, 2, 3])), (5, some ([0, 2, 3, 23], [0, 2, 3])), (13, some ([2, 3], [0, 2, 3]))], out := [(3, some ([0, 2, 3], [0, 2, 3]))], loopK := [], frz := [], sch := [(3, .first 2 [4, 5, 6, 7] [0, 1, 3] (.first 0 [1, 5, 6, 7] [3, 4] (.first 1 [5, 6, 7] [3, 4] (.fork 3 (.fork 4 (.first 5 [6, 7] [] (.first 6 [7] [] (.fork 7 (.done) (.stop)))) (.stop)) (.stop)))))] }
def fc248 : FCfg := { par := [.ptr [.imm, .imm, .imm]], inn := [(4, some ([0, 3], [0])), (5, some ([0, 3], [0])), (6, some ([0, 3], [0]))], out := [(2, some ([0, 3, 13], [0])), (3, some ([0, 3], [0])), (6, some ([0, 3, 53], [0]))], loopK := [], frz := [], sch := [(2, .first 0 [1, 2, 3, 9] [4, 5, 6, 7, 8] (.first 1 [2, 3, 9] [4, 5, 6, 7, 8] (.first 2 [3, 9] [4, 5, 6, 7, 8] (.first 3 [9] [4, 5, 6, 7, 8] (.first 4 [5, 6, 7, 8, 9] [] (.first 5 [6, 7, 8, 9] [] (.first 6 [7, 8, 9] [] (.first 7 [8, 9] [] (.first 8 [9] [] (.first 9 [] [] (.done))))))))))), (3, .first 0 [1, 2, 3, 8, 9, 10, 11] [4, 5, 6, 7] (.first 1 [2, 3, 8, 9, 10, 11] [4, 5, 6, 7] (.first 2 [3, 8, 9, 10, 11] [4, 5, 6, 7] (.first 3 [8, 9, 10, 11] [4, 5, 6, 7] (.first 4 [5, 6, 7, 8, 9, 10, 11] [] (.first 5 [6, 7, 8, 9, 10, 11] [] (.first 6 [7, 8, 9, 10, 11] [] (.first 7 [8, 9, 10, 11] [] (.first 8 [9, 10, 11] [] (.first 9 [10, 11] [] (.fork 10 (.fork 11 (.done) (.stop)) (.stop)))))))))))), (6, .first 0 [1, 2, 3, 9] [4, 5, 6, 7, 8] (.first 1 [2, 3, 9] [4, 5, 6, 7, 8] (.first 2 [3, 9] [4, 5, 6, 7, 8] (.first 3 [9] [4, 5, 6, 7, 8] (.first 4 [5, 6, 7, 8, 9] [] (.first 5 [6, 7, 8, 9] [] (.first 6 [7, 8, 9] [] (.first 7 [8, 9] [] (.first 8 [9] [] (.first 9 [] [] (.done)))))))))))] }
def fc249 : FCfg := { par := [.cst false, .cst false], inn := [(7, some ([], []))], out := [], loopK := [(2, ([0, 1, 7, 8], []))], frz := [], sch := [] }
def fc250 : FCfg := { par := [.cst false], inn := [(8, some ([], []))], out := [(1, some ([0, 21], [])), (6, some ([0, 3, 49], []))], loopK := [(4, ([0, 3], []))], frz := [], sch := [] }
def fcs : List (Nat × FCfg) := [(3, fc3), (14, fc14), (15, fc15), (16, fc16), (17, fc17), (18, fc18), (19, fc19), (20, fc20), (21, fc21), (22, fc22), (23, fc23), (85, fc85), (86, fc86), (87, fc87), (88, fc88), (89, fc89), (90, fc90), (91, fc91), (92, fc92), (93, fc93), (94, fc94), (95, fc95), (96, fc96), (97, fc97), (98, fc98), (99, fc99), (150, fc150), (182, fc182), (183, fc183), (184, fc184), (185, fc185), (186, fc186), (188, fc188), (189, fc189), (239, fc239), (247, fc247), (248, fc248), (249, fc249), (250, fc250)]
def ons : List (Nat × Bool) := [(3, true), (14, true), (15, true), (16, true), (17, true), (18, true), (19, true), (20, true), (21, true), (22, true), (23, true), (85, true), (86, true), (87, true), (88, true), (89, true), (90, true), (91, true), (92, true), (93, true), (94, true), (95, true), (96, true), (97, true), (98, true), (99, true), (150, true), (182, true), (183, true), (184, true), (185, true), (186, true), (188, true), (189, true), (239, true), (247, true), (248, true), (249, true), (250, true)]
def cfg : Cfg := mkCfg ons fcs [(187, some (extCloneN 1 8))]
theorem c3 : cfg.fc 3 = fc3 := rfl
theorem z3 : (cfg.fc 3).frz = [] := rfl
theorem c14 : cfg.fc 14 = fc14 := rfl
theorem z14 : (cfg.fc 14).frz = [] := rfl
theorem c15 : cfg.fc 15 = fc15 := rfl
theorem z15 : (cfg.fc 15).frz = [] := rfl
theorem c16 : cfg.fc 16 = fc16 := rfl
theorem z16 : (cfg.fc 16).frz = [] := rfl
theorem c17 : cfg.fc 17 = fc17 := rfl
theorem z17 : (cfg.fc 17).frz = [] := rfl
theorem c18 : cfg.fc 18 = fc18 := rfl
theorem z18 : (cfg.fc 18).frz = [] := rfl
theorem c19 : cfg.fc 19 = fc19 := rfl
theorem z19 : (cfg.fc 19).frz = [] := rfl
theorem c20 : cfg.fc 20 = fc20 := rfl
theorem z20 : (cfg.fc 20).frz = [] := rfl
theorem c21 : cfg.fc 21 = fc21 := rfl
theorem z21 : (cfg.fc 21).frz = [] := rfl
theorem c22 : cfg.fc 22 = fc22 := rfl
theorem z22 : (cfg.fc 22).frz = [] := rfl
theorem c23 : cfg.fc 23 = fc23 := rfl
theorem z23 : (cfg.fc 23).frz = [] := rfl
theorem c85 : cfg.fc 85 = fc85 := rfl
theorem z85 : (cfg.fc 85).frz = [] := rfl
theorem c86 : cfg.fc 86 = fc86 := rfl
theorem z86 : (cfg.fc 86).frz = [] := rfl
theorem c87 : cfg.fc 87 = fc87 := rfl
theorem z87 : (cfg.fc 87).frz = [] := rfl
theorem c88 : cfg.fc 88 = fc88 := rfl
theorem z88 : (cfg.fc 88).frz = [] := rfl
theorem c89 : cfg.fc 89 = fc89 := rfl
theorem z89 : (cfg.fc 89).frz = [] := rfl
theorem c90 : cfg.fc 90 = fc90 := rfl
theorem z90 : (cfg.fc 90).frz = [] := rfl
theorem c91 : cfg.fc 91 = fc91 := rfl
theorem z91 : (cfg.fc 91).frz = [] := rfl
theorem c92 : cfg.fc 92 = fc92 := rfl
theorem z92 : (cfg.fc 92).frz = [] := rfl
theorem c93 : cfg.fc 93 = fc93 := rfl
theorem z93 : (cfg.fc 93).frz = [] := rfl
theorem c94 : cfg.fc 94 = fc94 := rfl
theorem z94 : (cfg.fc 94).frz = [] := rfl
theorem c95 : cfg.fc 95 = fc95 := rfl
theorem z95 : (cfg.fc 95).frz = [] := rfl
theorem c96 : cfg.fc 96 = fc96 := rfl
theorem z96 : (cfg.fc 96).frz = [] := rfl
theorem c97 : cfg.fc 97 = fc97 := rfl
theorem z97 : (cfg.fc 97).frz = [] := rfl
theorem c98 : cfg.fc 98 = fc98 := rfl
theorem z98 : (cfg.fc 98).frz = [] := rfl
theorem c99 : cfg.fc 99 = fc99 := rfl
theorem z99 : (cfg.fc 99).frz = [] := rfl
theorem c150 : cfg.fc 150 = fc150 := rfl
theorem z150 : (cfg.fc 150).frz = [] := rfl
theorem c182 : cfg.fc 182 = fc182 := rfl
theorem z182 : (cfg.fc 182).frz = [] := rfl
theorem c183 : cfg.fc 183 = fc183 := rfl
theorem z183 : (cfg.fc 183).frz = [] := rfl
theorem c184 : cfg.fc 184 = fc184 := rfl
theorem z184 : (cfg.fc 184).frz = [] := rfl
theorem c185 : cfg.fc 185 = fc185 := rfl
theorem z185 : (cfg.fc 185).frz = [] := rfl
theorem c186 : cfg.fc 186 = fc186 := rfl
theorem z186 : (cfg.fc 186).frz = [] := rfl
theorem c188 : cfg.fc 188 = fc188 := rfl
theorem z188 : (cfg.fc 188).frz = [] := rfl
theorem c189 : cfg.fc 189 = fc189 := rfl
theorem z189 : (cfg.fc 189).frz = [] := rfl
theorem c239 : cfg.fc 239 = fc239 := rfl
theorem z239 : (cfg.fc 239).frz = [] := rfl
theorem c247 : cfg.fc 247 = fc247 := rfl
theorem z247 : (cfg.fc 247).frz = [] := rfl
theorem c248 : cfg.fc 248 = fc248 := rfl
theorem z248 : (cfg.fc 248).frz = [] := rfl
theorem c249 : cfg.fc 249 = fc249 := rfl
theorem z249 : (cfg.fc 249).frz = [] := rfl
theorem c250 : cfg.fc 250 = fc250 := rfl
theorem z250 : (cfg.fc 250).frz = [] := rfl
theorem bF128 : buildF Try.prog 128 = some ([.im 0 (.sc (.string ⟨#[]⟩)), .im 0 (.sc (.int .i64 0)), .im 0 (.sc (.int .i64 0)), .im 0 (.sc (.int .i64 0))], [(0, 1), (1, 1), (2, 1), (3, 1)]) := by kernel_rfl
theorem bF132 : buildF Try.prog 132 = some ([.nil, .im 0 (.sc (.int .i64 0)), .im 0 (.sc (.int .i64 0)), .im 0 (.sc (.int .i64 0))], [(0, 1), (1, 1), (2, 1), (3, 1)]) := by kernel_rfl
theorem bF283 : buildF Try.prog 283 = some ([.nil, .im 0 (.sc (.int .i64 0)), .im 0 (.sc (.int .u64 0))], [(0, 1), (1, 1), (2, 1)]) := by kernel_rfl
theorem eF24 : elemSz Try.prog 24 = some (128, 4) := by kernel_rfl
theorem eF27 : elemSz Try.prog 27 = some (2, 1) := by kernel_rfl
theorem fF128_0 : fieldF Try.prog 128 0 = some 0 := by kernel_rfl
theorem fF128_1 : fieldF Try.prog 128 1 = some 1 := by kernel_rfl
theorem fF128_2 : fieldF Try.prog 128 2 = some 2 := by kernel_rfl
theorem fF128_3 : fieldF Try.prog 128 3 = some 3 := by kernel_rfl
theorem fF132_0 : fieldF Try.prog 132 0 = some 0 := by kernel_rfl
theorem fF132_1 : fieldF Try.prog 132 1 = some 1 := by kernel_rfl
theorem fF132_2 : fieldF Try.prog 132 2 = some 2 := by kernel_rfl
theorem fF132_3 : fieldF Try.prog 132 3 = some 3 := by kernel_rfl
theorem fF283_0 : fieldF Try.prog 283 0 = some 0 := by kernel_rfl
theorem fF283_1 : fieldF Try.prog 283 1 = some 1 := by kernel_rfl
theorem fF283_2 : fieldF Try.prog 283 2 = some 2 := by kernel_rfl
theorem kF14_22 : callK Try.prog cfg 14 0 [22] = [(.cst false, [some 1])] := by kernel_rfl
theorem kF150_27_139 : callK Try.prog cfg 150 0 [27, 139] = [(.cst false, [some 1]), (.cst false, [none])] := by kernel_rfl
theorem kF15_22 : callK Try.prog cfg 15 0 [22] = [(.cst false, [some 1])] := by kernel_rfl
theorem kF16_24_2_2_2 : callK Try.prog cfg 16 0 [24, 2, 2, 2] = [(.cst false, [some 4]), (.cst false, [none]), (.cst false, [none]), (.cst false, [none])] := by kernel_rfl
theorem kF17_24_2_2_2_2 : callK Try.prog cfg 17 0 [24, 2, 2, 2, 2] = [(.cst false, [some 4]), (.cst false, [none]), (.cst false, [none]), (.cst false, [none]), (.cst false, [none])] := by kernel_rfl
theorem kF182_121 : callK Try.prog cfg 182 0 [121] = [(.ptr [.imm, .imm, .imm], [none])] := by kernel_rfl
theorem kF183_121_2 : callK Try.prog cfg 183 0 [121, 2] = [(.ptr [.imm, .imm, .imm], [none]), (.cst false, [none])] := by kernel_rfl
theorem kF184_121_2 : callK Try.prog cfg 184 0 [121, 2] = [(.ptr [.imm, .imm, .imm], [none]), (.cst false, [none])] := by kernel_rfl
theorem kF185_24_287 : callK Try.prog cfg 185 0 [24, 287] = [(.cst false, [some 4]), (.cst false, [none])] := by kernel_rfl
theorem kF186_128_0_0 : callK Try.prog cfg 186 0 [128, 0, 0] = [(.cst false, [none, none, none, none]), (.cst false, [none]), (.cst false, [none])] := by kernel_rfl
theorem kF187_27 : callK Try.prog cfg 187 0 [27] = [(.cst false, [some 1])] := by kernel_rfl
theorem kF188_128 : callK Try.prog cfg 188 0 [128] = [(.cst false, [none, none, none, none])] := by kernel_rfl
theorem kF189_128 : callK Try.prog cfg 189 0 [128] = [(.cst false, [none, none, none, none])] := by kernel_rfl
theorem kF18_24_27_2_2_2 : callK Try.prog cfg 18 0 [24, 27, 2, 2, 2] = [(.cst false, [some 4]), (.cst false, [some 1]), (.cst false, [none]), (.cst false, [none]), (.cst false, [none])] := by kernel_rfl
theorem kF19_27_27 : callK Try.prog cfg 19 0 [27, 27] = [(.cst false, [some 1]), (.cst false, [some 1])] := by kernel_rfl
theorem kF20_24_27 : callK Try.prog cfg 20 0 [24, 27] = [(.cst false, [some 4]), (.cst false, [some 1])] := by kernel_rfl
theorem kF21_24 : callK Try.prog cfg 21 0 [24] = [(.cst false, [some 4])] := by kernel_rfl
theorem kF22_22 : callK Try.prog cfg 22 0 [22] = [(.cst false, [some 1])] := by kernel_rfl
theorem kF239_121_296 : callK Try.prog cfg 239 0 [121, 296] = [(.ptr [.imm, .imm, .imm], [none]), (.cst false, [some 1])] := by kernel_rfl
theorem kF23_2_2_2_2 : callK Try.prog cfg 23 0 [2, 2, 2, 2] = [(.cst false, [none]), (.cst false, [none]), (.cst false, [none]), (.cst false, [none])] := by kernel_rfl
theorem kF247_121 : callK Try.prog cfg 247 0 [121] = [(.ptr [.imm, .imm, .imm], [none])] := by kernel_rfl
theorem kF248_121 : callK Try.prog cfg 248 0 [121] = [(.ptr [.imm, .imm, .imm], [none])] := by kernel_rfl
theorem kF249_24_287 : callK Try.prog cfg 249 0 [24, 287] = [(.cst false, [some 4]), (.cst false, [none])] := by kernel_rfl
theorem kF250_9 : callK Try.prog cfg 250 0 [9] = [(.cst false, [none])] := by kernel_rfl
theorem kF85_22 : callK Try.prog cfg 85 0 [22] = [(.cst false, [some 1])] := by kernel_rfl
theorem kF86_121 : callK Try.prog cfg 86 0 [121] = [(.ptr [.imm, .imm, .imm], [none])] := by kernel_rfl
theorem kF87_121 : callK Try.prog cfg 87 0 [121] = [(.ptr [.imm, .imm, .imm], [none])] := by kernel_rfl
theorem kF88_24_2_2_2_2 : callK Try.prog cfg 88 0 [24, 2, 2, 2, 2] = [(.cst false, [some 4]), (.cst false, [none]), (.cst false, [none]), (.cst false, [none]), (.cst false, [none])] := by kernel_rfl
theorem kF89_2_2_2_2 : callK Try.prog cfg 89 0 [2, 2, 2, 2] = [(.cst false, [none]), (.cst false, [none]), (.cst false, [none]), (.cst false, [none])] := by kernel_rfl
theorem kF90_130_27_2_2 : callK Try.prog cfg 90 0 [130, 27, 2, 2] = [(.ptr [.imm, .imm, .imm, .imm], [none]), (.mv, [some 1]), (.cst false, [none]), (.cst false, [none])] := by kernel_rfl
theorem kF91_24 : callK Try.prog cfg 91 0 [24] = [(.cst false, [some 4])] := by kernel_rfl
theorem kF92_2_2_2 : callK Try.prog cfg 92 0 [2, 2, 2] = [(.cst false, [none]), (.cst false, [none]), (.cst false, [none])] := by kernel_rfl
theorem kF93_2_2 : callK Try.prog cfg 93 0 [2, 2] = [(.cst false, [none]), (.cst false, [none])] := by kernel_rfl
theorem kF94_2_2_2_2 : callK Try.prog cfg 94 0 [2, 2, 2, 2] = [(.cst false, [none]), (.cst false, [none]), (.cst false, [none]), (.cst false, [none])] := by kernel_rfl
theorem kF95_27_139 : callK Try.prog cfg 95 0 [27, 139] = [(.cst false, [some 1]), (.cst false, [none])] := by kernel_rfl
theorem kF96_2 : callK Try.prog cfg 96 0 [2] = [(.cst false, [none])] := by kernel_rfl
theorem kF97_121 : callK Try.prog cfg 97 0 [121] = [(.ptr [.imm, .imm, .imm], [none])] := by kernel_rfl
theorem kF98_121 : callK Try.prog cfg 98 0 [121] = [(.ptr [.imm, .imm, .imm], [none])] := by kernel_rfl
theorem kF99_121_27 : callK Try.prog cfg 99 0 [121, 27] = [(.ptr [.imm, .imm, .imm], [none]), (.cst false, [some 1])] := by kernel_rfl
theorem rF14 : resK Try.prog (Try.f14.results.toList.zip Try.f14.resultTypes.toList) = [(.tmp 2, [none], none)] := by kernel_rfl
theorem rF15 : resK Try.prog (Try.f15.results.toList.zip Try.f15.resultTypes.toList) = [(.tmp 2, [some 4], none), (.tmp 3, [none], none), (.tmp 4, [none], none), (.tmp 5, [none], none), (.tmp 6, [none], none)] := by kernel_rfl
theorem rF150 : resK Try.prog (Try.f150.results.toList.zip Try.f150.resultTypes.toList) = [(.tmp 4, [none], none)] := by kernel_rfl
theorem rF16 : resK Try.prog (Try.f16.results.toList.zip Try.f16.resultTypes.toList) = [(.tmp 8, [some 1], none), (.tmp 9, [none], none)] := by kernel_rfl
theorem rF17 : resK Try.prog (Try.f17.results.toList.zip Try.f17.resultTypes.toList) = [(.tmp 10, [some 1], none), (.tmp 11, [none], none)] := by kernel_rfl
theorem rF18 : resK Try.prog (Try.f18.results.toList.zip Try.f18.resultTypes.toList) = [(.tmp 10, [none], none)] := by kernel_rfl
theorem rF182 : resK Try.prog (Try.f182.results.toList.zip Try.f182.resultTypes.toList) = [(.tmp 2, [some 4], none)] := by kernel_rfl
theorem rF183 : resK Try.prog (Try.f183.results.toList.zip Try.f183.resultTypes.toList) = [(.tmp 4, [none], none)] := by kernel_rfl
theorem rF184 : resK Try.prog (Try.f184.results.toList.zip Try.f184.resultTypes.toList) = [(.tmp 4, [none], none)] := by kernel_rfl
theorem rF185 : resK Try.prog (Try.f185.results.toList.zip Try.f185.resultTypes.toList) = [(.tmp 4, [none], none)] := by kernel_rfl
theorem rF186 : resK Try.prog (Try.f186.results.toList.zip Try.f186.resultTypes.toList) = [(.tmp 4, [none], none)] := by kernel_rfl
theorem rF187 : resK Try.prog (Try.f187.results.toList.zip Try.f187.resultTypes.toList) = [(.tmp 2, [some 1], none)] := by kernel_rfl
theorem rF188 : resK Try.prog (Try.f188.results.toList.zip Try.f188.resultTypes.toList) = [(.tmp 2, [none], none)] := by kernel_rfl
theorem rF189 : resK Try.prog (Try.f189.results.toList.zip Try.f189.resultTypes.toList) = [(.tmp 2, [none], none)] := by kernel_rfl
theorem rF19 : resK Try.prog (Try.f19.results.toList.zip Try.f19.resultTypes.toList) = [(.tmp 4, [none], none)] := by kernel_rfl
theorem rF20 : resK Try.prog (Try.f20.results.toList.zip Try.f20.resultTypes.toList) = [(.tmp 4, [none], none), (.tmp 5, [none], none)] := by kernel_rfl
theorem rF21 : resK Try.prog (Try.f21.results.toList.zip Try.f21.resultTypes.toList) = [(.tmp 2, [none], none), (.tmp 3, [none], none)] := by kernel_rfl
theorem rF22 : resK Try.prog (Try.f22.results.toList.zip Try.f22.resultTypes.toList) = [(.tmp 2, [none], none), (.tmp 3, [none], none), (.tmp 4, [none], none), (.tmp 5, [none], none)] := by kernel_rfl
theorem rF23 : resK Try.prog (Try.f23.results.toList.zip Try.f23.resultTypes.toList) = [(.tmp 8, [none], none), (.tmp 9, [none], none)] := by kernel_rfl
theorem rF239 : resK Try.prog (Try.f239.results.toList.zip Try.f239.resultTypes.toList) = [(.tmp 4, [none], none)] := by kernel_rfl
theorem rF247 : resK Try.prog (Try.f247.results.toList.zip Try.f247.resultTypes.toList) = [(.cell 2 128, [none, none, none, none], some (true, 4))] := by kernel_rfl
theorem rF248 : resK Try.prog (Try.f248.results.toList.zip Try.f248.resultTypes.toList) = [(.tmp 2, [none], none)] := by kernel_rfl
theorem rF249 : resK Try.prog (Try.f249.results.toList.zip Try.f249.resultTypes.toList) = [(.tmp 4, [none], none)] := by kernel_rfl
theorem rF250 : resK Try.prog (Try.f250.results.toList.zip Try.f250.resultTypes.toList) = [(.tmp 2, [none], none)] := by kernel_rfl
theorem rF3 : resK Try.prog (Try.f3.results.toList.zip Try.f3.resultTypes.toList) = [(.tmp 4, [none], none)] := by kernel_rfl
theorem rF85 : resK Try.prog (Try.f85.results.toList.zip Try.f85.resultTypes.toList) = [(.tmp 2, [none], none)] := by kernel_rfl
theorem rF86 : resK Try.prog (Try.f86.results.toList.zip Try.f86.resultTypes.toList) = [(.tmp 2, [some 4], none), (.tmp 3, [none], none), (.tmp 4, [none], none), (.tmp 5, [none], none)] := by kernel_rfl
theorem rF87 : resK Try.prog (Try.f87.results.toList.zip Try.f87.resultTypes.toList) = [(.tmp 2, [none], none)] := by kernel_rfl
theorem rF88 : resK Try.prog (Try.f88.results.toList.zip Try.f88.resultTypes.toList) = [(.tmp 10, [none], none)] := by kernel_rfl
theorem rF89 : resK Try.prog (Try.f89.results.toList.zip Try.f89.resultTypes.toList) = [(.tmp 8, [none], none)] := by kernel_rfl
theorem rF90 : resK Try.prog (Try.f90.results.toList.zip Try.f90.resultTypes.toList) = [(.tmp 8, [some 1], none), (.tmp 9, [none], none)] := by kernel_rfl
theorem rF91 : resK Try.prog (Try.f91.results.toList.zip Try.f91.resultTypes.toList) = [(.tmp 2, [none], none)] := by kernel_rfl
theorem rF92 : resK Try.prog (Try.f92.results.toList.zip Try.f92.resultTypes.toList) = [(.tmp 6, [none], none)] := by kernel_rfl
theorem rF93 : resK Try.prog (Try.f93.results.toList.zip Try.f93.resultTypes.toList) = [(.tmp 4, [none], none)] := by kernel_rfl
theorem rF94 : resK Try.prog (Try.f94.results.toList.zip Try.f94.resultTypes.toList) = [(.tmp 8, [none], none)] := by kernel_rfl
theorem rF95 : resK Try.prog (Try.f95.results.toList.zip Try.f95.resultTypes.toList) = [(.tmp 4, [none], none)] := by kernel_rfl
theorem rF96 : resK Try.prog (Try.f96.results.toList.zip Try.f96.resultTypes.toList) = [(.tmp 2, [none], none)] := by kernel_rfl
theorem rF97 : resK Try.prog (Try.f97.results.toList.zip Try.f97.resultTypes.toList) = [(.tmp 2, [none], none)] := by kernel_rfl
theorem rF98 : resK Try.prog (Try.f98.results.toList.zip Try.f98.resultTypes.toList) = [(.tmp 2, [none], none), (.tmp 3, [none], none)] := by kernel_rfl
theorem rF99 : resK Try.prog (Try.f99.results.toList.zip Try.f99.resultTypes.toList) = [(.tmp 4, [none], none)] := by kernel_rfl
theorem sF22 : sliceF Try.prog 22 = some (5, 1, [none], false, 1, [.im 0 (.sc (.int .u8 0))]) := by kernel_rfl
theorem sF24 : sliceF Try.prog 24 = some (128, 4, [none, none, none, none], true, 40, [.im 0 (.sc (.string ⟨#[]⟩)), .im 0 (.sc (.int .i64 0)), .im 0 (.sc (.int .i64 0)), .im 0 (.sc (.int .i64 0))]) := by kernel_rfl
theorem sF27 : sliceF Try.prog 27 = some (2, 1, [none], false, 8, [.im 0 (.sc (.int .i64 0))]) := by kernel_rfl
theorem sF296 : sliceF Try.prog 296 = some (9, 1, [none], false, 16, [.im 0 (.sc (.string ⟨#[]⟩))]) := by kernel_rfl
theorem tF128 : tyF Try.prog 128 = some ([.im 0 (.sc (.string ⟨#[]⟩)), .im 0 (.sc (.int .i64 0)), .im 0 (.sc (.int .i64 0)), .im 0 (.sc (.int .i64 0))], [none, none, none, none], true, 4) := by kernel_rfl
theorem tF132 : tyF Try.prog 132 = some ([.nil, .im 0 (.sc (.int .i64 0)), .im 0 (.sc (.int .i64 0)), .im 0 (.sc (.int .i64 0))], [some 4, none, none, none], true, 4) := by kernel_rfl
theorem tF2 : tyF Try.prog 2 = some ([.im 0 (.sc (.int .i64 0))], [none], false, 1) := by kernel_rfl
theorem tF22 : tyF Try.prog 22 = some ([.nil], [some 1], false, 1) := by kernel_rfl
theorem tF24 : tyF Try.prog 24 = some ([.nil], [some 4], false, 1) := by kernel_rfl
theorem tF281 : tyF Try.prog 281 = some ([.im 0 (.sc (.int .u64 0))], [none], false, 1) := by kernel_rfl
theorem tF283 : tyF Try.prog 283 = some ([.nil, .im 0 (.sc (.int .i64 0)), .im 0 (.sc (.int .u64 0))], [some 1, none, none], true, 3) := by kernel_rfl
theorem tF3 : tyF Try.prog 3 = some ([.im 0 (.sc (.int .i64 0))], [none], false, 1) := by kernel_rfl
theorem tF5 : tyF Try.prog 5 = some ([.im 0 (.sc (.int .u8 0))], [none], false, 1) := by kernel_rfl
theorem tF9 : tyF Try.prog 9 = some ([.im 0 (.sc (.string ⟨#[]⟩))], [none], false, 1) := by kernel_rfl
theorem uF2 : Try.prog.underlying 2 = some (.int .i64) := by kernel_rfl
theorem uF22 : Try.prog.underlying 22 = some (.slice 5) := by kernel_rfl
theorem uF24 : Try.prog.underlying 24 = some (.slice 128) := by kernel_rfl
theorem uF27 : Try.prog.underlying 27 = some (.slice 2) := by kernel_rfl
theorem uF281 : Try.prog.underlying 281 = some (.int .u64) := by kernel_rfl
theorem uF296 : Try.prog.underlying 296 = some (.slice 9) := by kernel_rfl
theorem uF3 : Try.prog.underlying 3 = some (.int .i64) := by kernel_rfl
theorem uF5 : Try.prog.underlying 5 = some (.int .u8) := by kernel_rfl
theorem uF9 : Try.prog.underlying 9 = some .string := by kernel_rfl

theorem L_laws_b10Long {code_0 : (List Int)} {r : Bool} (h : laws_b10Long code_0 = some r) : FL Try.prog cfg 14 [.im 2 false [.row 1 (List.map (eK .u8) code_0)]] = some ([(false, [.im 0 (.sc (.bool r))])], []) := by
  unfold laws_b10Long at h
  refine FL_goS (A := [(0, .v false [.im 2 (.row 1 (List.map (eK .u8) code_0))])]) (B := [(0, none)]) (nt := 6) rfl rfl Try.func14 rfl rfl rfl rfl ?_
  refine Go.seq ?_
  refine Go.r0 c14 rfl rfl (sq z14 (oAsI rfl rfl) <| nl) ?_
  refine Unw.seq ?_
  refine Go.seq ?_
  refine Go.r0 c14 rfl rfl (sq z14 (oMv rfl rfl) <| sq z14 (oLnI rfl rfl uF22 rfl) <| sq z14 (oBi rfl rfl rfl rfl) <| sq z14 (oAsI rfl rfl) <| nl) ?_
  refine Unw.seq ?_
  refine Go.ret (Unw.ret ?_)
  cases h
  exact Fin_ret (fin_of rfl rF14 rfl (by kernel_rfl))
theorem L_spec_l00From {code_0 : (List Int)} {r : S_l00Src} (h : spec_l00From code_0 = some r) : FL Try.prog cfg 85 [.im 2 false [.row 1 (List.map (eK .u8) code_0)]] = some ([(false, [.pt true [⟨.imm, 2, .row 1 (List.map (eK .u8) r.code)⟩, ⟨.imm, 0, .sc (.int .i64 r.at_)⟩, ⟨.imm, 0, .sc (.int .u64 r.seed)⟩]])], []) := by
  unfold spec_l00From at h
  refine FL_goS (A := [(0, .v false [.im 2 (.row 1 (List.map (eK .u8) code_0))])]) (B := [(0, none)]) (nt := 6) rfl rfl Try.func85 rfl rfl rfl rfl ?_
  refine Go.seq ?_
  refine Go.r0 c85 rfl rfl (sq z85 (oAsI rfl rfl) <| nl) ?_
  refine Unw.seq ?_
  refine Go.seq ?_
  refine Go.r0 c85 rfl rfl (sq z85 (oMv rfl rfl) <| sq z85 (oBu (cs := [.im 2 _, .im 0 _, .im 0 _]) rfl bF283 rfl) <| sq z85 (oBx rfl tF283 rfl (tkI (tkI (tkI tk0)))) <| sq z85 (oAsP rfl rfl) <| nl) ?_
  refine Unw.seq ?_
  refine Go.ret (Unw.ret ?_)
  cases h
  exact Fin_ret (fin_of rfl rF85 rfl (by kernel_rfl))
theorem L_spec_l00Src_next {s_0 : S_l00Src} {r : (Int × S_l00Src)} (h : spec_l00Src_next s_0 = some r) : FL Try.prog cfg 248 [.ptr true [(.imm, .row 1 (List.map (eK .u8) s_0.code)), (.imm, .sc (.int .i64 s_0.at_)), (.imm, .sc (.int .u64 s_0.seed))]] = some ([(false, [.im 0 (.sc (.int .i64 r.1))])], [.ptr true [(.imm, .row 1 (List.map (eK .u8) r.2.code)), (.imm, .sc (.int .i64 r.2.at_)), (.imm, .sc (.int .u64 r.2.seed))]]) := by
  unfold spec_l00Src_next at h
  refine FL_goS (A := [(0, .v false [.mp 0 0 0])]) (B := [(0, some ⟨0, 0, true, true, false, true, [⟨.imm, 0, 1, .row 1 (List.map (eK .u8) s_0.code)⟩, ⟨.imm, 0, 0, .sc (.int .i64 s_0.at_)⟩, ⟨.imm, 0, 0, .sc (.int .u64 s_0.seed)⟩]⟩)]) (nt := 62) rfl rfl Try.func248 rfl rfl rfl rfl ?_
  refine Go.seq ?_
  refine Go.r0 c248 rfl rfl (sq z248 (oAsI rfl rfl) <| nl) ?_
  refine Unw.seq ?_
  refine Go.seq ?_
  refine Go.r0 c248 rfl rfl (sq z248 (oAsI rfl rfl) <| nl) ?_
  refine Unw.seq ?_
  refine Go.seq ?_
  refine Go.seq ?_
  refine Go.dr c248 rfl rfl rfl rfl (mk [(0, .v false [.mp 0 0 0]), (3, iv 0), (13, bv (decide (s_0.at_ < (s_0.code.length : Int))))] [(0, some ⟨0, 0, true, true, false, true, [⟨.imm, 0, 1, .row 1 (List.map (eK .u8) s_0.code)⟩, ⟨.imm, 0, 0, .sc (.int .i64 s_0.at_)⟩, ⟨.imm, 0, 0, .sc (.int .u64 s_0.seed)⟩]⟩)]) (sT rfl (dN z248 rfl (oMv rfl rfl)) <| sT rfl (dN z248 rfl (oNl rfl rfl rfl)) <| sT rfl (dN z248 rfl (oFA (r' := .mp 0 0 1) rfl fF283_1 rfl rfl)) <| sT rfl (dN z248 rfl (oLd (cs := [.im 0 _]) rfl tF3 rfl rfl)) <| sT rfl (dN z248 rfl (oMv rfl rfl)) <| sT rfl (dN z248 rfl (oNl rfl rfl rfl)) <| sT rfl (dN z248 rfl (oFA (r' := .mp 0 0 0) rfl fF283_0 rfl rfl)) <| sT rfl (dN z248 rfl (oLd (cs := [.im 1 _]) rfl tF22 rfl rfl)) <| sT rfl (dN z248 rfl (oLnI rfl rfl uF22 rfl)) <| sT rfl (dN z248 rfl (oBi rfl rfl rfl rfl)) <| sD (by kernel_rfl)) ?_
  refine Unw.seq ?_
  refine Go.join (fun st => ∃ b_3_r4, spec_l00Src_next_k4 s_0 b_3_r4 = some r ∧ st.norm ([0, 3], [0]) = mk [(0, .v false [.mp 0 0 0]), (3, iv b_3_r4)] [(0, some ⟨0, 0, true, true, false, true, [⟨.imm, 0, 1, .row 1 (List.map (eK .u8) s_0.code)⟩, ⟨.imm, 0, 0, .sc (.int .i64 s_0.at_)⟩, ⟨.imm, 0, 0, .sc (.int .u64 s_0.seed)⟩]⟩)]) ?_ ?_
  · rintro st ⟨b_3_r4, h, hst⟩
    unfold spec_l00Src_next_k4 at h
    refine Unw.seq ?_
    refine Go.seq ?_
    refine Go.r1 c248 rfl rfl hst (sq z248 (oMv rfl rfl) <| sq z248 (oNl rfl rfl rfl) <| sq z248 (oFA (r' := .mp 0 0 1) rfl fF283_1 rfl rfl) <| sq z248 (oLd (cs := [.im 0 _]) rfl tF3 rfl rfl) <| sq z248 (oBi rfl rfl rfl rfl) <| sq z248 (oNl rfl rfl rfl) <| sq z248 (oFA (r' := .mp 0 0 1) rfl fF283_1 rfl rfl) <| sq z248 (oSt tF3 rfl rfl rfl (tkI tk0) rfl rfl rfl) <| nl) ?_
    refine Unw.seq ?_
    refine Go.seq ?_
    refine Go.r1 c248 rfl rfl (st1 := mk [(0, .v false [.mp 0 0 0]), (3, iv b_3_r4)] [(0, some ⟨0, 0, true, true, false, true, [⟨.imm, 0, 1, .row 1 (List.map (eK .u8) s_0.code)⟩, ⟨.imm, 0, 0, .sc (.int .i64 (w64 (s_0.at_ + 1)))⟩, ⟨.imm, 0, 0, .sc (.int .u64 s_0.seed)⟩]⟩)]) (by kernel_rfl) (sq z248 (oMv rfl rfl) <| sq z248 (oMv rfl rfl) <| sq z248 (oNl rfl rfl rfl) <| sq z248 (oFA (r' := .mp 0 0 2) rfl fF283_2 rfl rfl) <| sq z248 (oLd (cs := [.im 0 _]) rfl tF281 rfl rfl) <| sq z248 (oBi rfl rfl rfl rfl) <| sq z248 (oMv rfl rfl) <| sq z248 (oCvI rfl uF3 uF281 rfl) <| sq z248 (oBi rfl rfl rfl rfl) <| sq z248 (oBi rfl rfl rfl rfl) <| sq z248 (oNl rfl rfl rfl) <| sq z248 (oFA (r' := .mp 0 0 2) rfl fF283_2 rfl rfl) <| sq z248 (oSt tF281 rfl rfl rfl (tkI tk0) rfl rfl rfl) <| nl) ?_
    refine Unw.seq ?_
    refine Go.seq ?_
    refine Go.seq ?_
    refine Go.dr c248 rfl rfl rfl (st1 := mk [(0, .v false [.mp 0 0 0]), (3, iv b_3_r4)] [(0, some ⟨0, 0, true, true, false, true, [⟨.imm, 0, 1, .row 1 (List.map (eK .u8) s_0.code)⟩, ⟨.imm, 0, 0, .sc (.int .i64 (w64 (s_0.at_ + 1)))⟩, ⟨.imm, 0, 0, .sc (.int .u64 (IntKind.wrap .u64 ((IntKind.wrap .u64 ((IntKind.wrap .u64 (s_0.seed * 6364136223846793005)) + (IntKind.wrap .u64 (b_3_r4)))) + 1442695040888963407)))⟩]⟩)]) (by kernel_rfl) (mk [(0, .v false [.mp 0 0 0]), (3, iv b_3_r4), (53, bv (decide ((w64 (s_0.at_ + 1)) ≤ (s_0.code.length : Int))))] [(0, some ⟨0, 0, true, true, false, true, [⟨.imm, 0, 1, .row 1 (List.map (eK .u8) s_0.code)⟩, ⟨.imm, 0, 0, .sc (.int .i64 (w64 (s_0.at_ + 1)))⟩, ⟨.imm, 0, 0, .sc (.int .u64 (IntKind.wrap .u64 ((IntKind.wrap .u64 ((IntKind.wrap .u64 (s_0.seed * 6364136223846793005)) + (IntKind.wrap .u64 (b_3_r4)))) + 1442695040888963407)))⟩]⟩)]) (sT rfl (dN z248 rfl (oMv rfl rfl)) <| sT rfl (dN z248 rfl (oNl rfl rfl rfl)) <| sT rfl (dN z248 rfl (oFA (r' := .mp 0 0 1) rfl fF283_1 rfl rfl)) <| sT rfl (dN z248 rfl (oLd (cs := [.im 0 _]) rfl tF3 rfl rfl)) <| sT rfl (dN z248 rfl (oMv rfl rfl)) <| sT rfl (dN z248 rfl (oNl rfl rfl rfl)) <| sT rfl (dN z248 rfl (oFA (r' := .mp 0 0 0) rfl fF283_0 rfl rfl)) <| sT rfl (dN z248 rfl (oLd (cs := [.im 1 _]) rfl tF22 rfl rfl)) <| sT rfl (dN z248 rfl (oLnI rfl rfl uF22 rfl)) <| sT rfl (dN z248 rfl (oBi rfl rfl rfl rfl)) <| sD (by kernel_rfl)) ?_
    refine Unw.seq ?_
    by_cases hc2 : (w64 (s_0.at_ + 1)) ≤ (s_0.code.length : Int)
    · rw [if_pos hc2] at h
      refine Go.condT rfl (iDec.2 hc2) ?_
      refine Go.seq ?_
      refine Go.r0 c248 rfl rfl (sq z248 (oMv rfl rfl) <| sq z248 (oAsI rfl rfl) <| nl) ?_
      refine Unw.seq ?_
      refine Go.ret (Unw.ret ?_)
      cases h
      exact Fin_ret (fin_of rfl rF248 rfl (by kernel_rfl))
    · rw [if_neg hc2] at h
      refine Go.condF rfl (byF iDec hc2) ?_
      refine Go.skip ?_
      refine Unw.seq ?_
      refine Go.seq ?_
      obtain ⟨x59, hx59, h⟩ := bs h
      refine Go.r0 c248 rfl rfl (sq z248 (oMv rfl rfl) <| sq z248 (oNl rfl rfl rfl) <| sq z248 (oFA (r' := .mp 0 0 2) rfl fF283_2 rfl rfl) <| sq z248 (oLd (cs := [.im 0 _]) rfl tF281 rfl rfl) <| sq z248 (oShr rfl hx59 rfl rfl) <| sq z248 (oBi rfl rfl rfl rfl) <| sq z248 (oCvI rfl uF281 uF2 rfl) <| sq z248 (oAsI rfl rfl) <| nl) ?_
      refine Unw.seq ?_
      refine Go.ret (Unw.ret ?_)
      cases h
      exact Fin_ret (fin_of rfl rF248 rfl (by kernel_rfl))
  · intro K3
    by_cases hc4 : s_0.at_ < (s_0.code.length : Int)
    · rw [if_pos hc4] at h
      refine Go.condT rfl (iDec.2 hc4) ?_
      obtain ⟨x22, hx22, h⟩ := bs h
      refine Go.dr c248 rfl rfl rfl rfl (mk [(0, .v false [.mp 0 0 0]), (3, iv (w64 (x22)))] [(0, some ⟨0, 0, true, true, false, true, [⟨.imm, 0, 1, .row 1 (List.map (eK .u8) s_0.code)⟩, ⟨.imm, 0, 0, .sc (.int .i64 s_0.at_)⟩, ⟨.imm, 0, 0, .sc (.int .u64 s_0.seed)⟩]⟩)]) (sT rfl (dN z248 rfl (oMv rfl rfl)) <| sT rfl (dN z248 rfl (oNl rfl rfl rfl)) <| sT rfl (dN z248 rfl (oFA (r' := .mp 0 0 0) rfl fF283_0 rfl rfl)) <| sT rfl (dN z248 rfl (oLd (cs := [.im 1 _]) rfl tF22 rfl rfl)) <| sT rfl (dN z248 rfl (oMv rfl rfl)) <| sT rfl (dN z248 rfl (oNl rfl rfl rfl)) <| sT rfl (dN z248 rfl (oFA (r' := .mp 0 0 1) rfl fF283_1 rfl rfl)) <| sT rfl (dN z248 rfl (oLd (cs := [.im 0 _]) rfl tF3 rfl rfl)) <| sT rfl (dN z248 rfl (oIAI rfl hx22 sF22 rfl rfl)) <| sT rfl (dN z248 rfl (oLd (cs := [.im 1 _]) rfl tF5 rfl rfl)) <| sS (dN z248 rfl (oCvI rfl uF5 uF3 rfl)) trivial (sS (dN z248 rfl (oAsI rfl rfl)) trivial (sD (by kernel_rfl)))) ?_
      exact K3 _ ⟨(w64 (x22)), h, (by kernel_rfl)⟩
    · rw [if_neg hc4] at h
      refine Go.condF rfl (byF iDec hc4) ?_
      refine Go.skip ?_
      exact K3 _ ⟨0, h, (by kernel_rfl)⟩
theorem L_spec_l00Src_pick {s_0 : S_l00Src} {n_1 : Int} {r : (Int × S_l00Src)} (h : spec_l00Src_pick s_0 n_1 = some r) : FL Try.prog cfg 184 [.ptr true [(.imm, .row 1 (List.map (eK .u8) s_0.code)), (.imm, .sc (.int .i64 s_0.at_)), (.imm, .sc (.int .u64 s_0.seed))], .im 2 false [.sc (.int .i64 n_1)]] = some ([(false, [.im 0 (.sc (.int .i64 r.1))])], [.ptr true [(.imm, .row 1 (List.map (eK .u8) r.2.code)), (.imm, .sc (.int .i64 r.2.at_)), (.imm, .sc (.int .u64 r.2.seed))]]) := by
  unfold spec_l00Src_pick at h
  refine FL_goS (A := [(0, .v false [.mp 0 0 0]), (1, .v false [.im 2 (.sc (.int .i64 n_1))])]) (B := [(0, some ⟨0, 0, true, true, false, true, [⟨.imm, 0, 1, .row 1 (List.map (eK .u8) s_0.code)⟩, ⟨.imm, 0, 0, .sc (.int .i64 s_0.at_)⟩, ⟨.imm, 0, 0, .sc (.int .u64 s_0.seed)⟩]⟩), (1, none)]) (nt := 20) rfl rfl Try.func184 rfl rfl rfl rfl ?_
  refine Go.seq ?_
  refine Go.r0 c184 rfl rfl (sq z184 (oAsI rfl rfl) <| nl) ?_
  refine Unw.seq ?_
  refine Go.seq ?_
  refine Go.seq ?_
  refine Go.r0 c184 rfl rfl (sq z184 (oMv rfl rfl) <| sq z184 (oBi rfl rfl rfl rfl) <| nl) ?_
  refine Unw.seq ?_
  by_cases hc1 : n_1 ≤ 1
  · rw [if_pos hc1] at h
    refine Go.condT rfl (iDec.2 hc1) ?_
    refine Go.seq ?_
    refine Go.r0 c184 rfl rfl (sq z184 (oAsI rfl rfl) <| nl) ?_
    refine Unw.seq ?_
    refine Go.ret (Unw.ret ?_)
    cases h
    exact Fin_ret (fin_of rfl rF184 rfl (by kernel_rfl))
  · rw [if_neg hc1] at h
    refine Go.condF rfl (byF iDec hc1) ?_
    refine Go.skip ?_
    refine Unw.seq ?_
    refine Go.seq ?_
    obtain ⟨x9, hx9, h⟩ := bs h
    refine Go.r0 c184 rfl rfl (sq z184 (oMv rfl rfl) <| sq z184 (oCa (xs := [.v false [.mp 0 0 0]]) (vs := [(false, [.im 0 _])]) (v := .v false [.im 0 _]) (L_spec_l00Src_next hx9) (.inl rfl) rfl kF248_121 rfl (ppP rfl rfl rfl pp0) rfl rfl (pbP rfl rfl pb0) rfl rfl rfl) <| sq z184 (oAsI rfl rfl) <| nl) ?_
    refine Unw.seq ?_
    refine Go.seq ?_
    refine Go.seq ?_
    refine Go.r1 c184 rfl rfl (st1 := mk [(0, .v false [.mp 0 0 0]), (1, iv n_1), (5, iv x9.1)] [(0, some ⟨0, 0, true, true, false, true, [⟨.imm, 0, 1, .row 1 (List.map (eK .u8) x9.2.code)⟩, ⟨.imm, 0, 0, .sc (.int .i64 x9.2.at_)⟩, ⟨.imm, 0, 0, .sc (.int .u64 x9.2.seed)⟩]⟩)]) (by kernel_rfl) (sq z184 (oMv rfl rfl) <| sq z184 (oBi rfl rfl rfl rfl) <| nl) ?_
    refine Unw.seq ?_
    refine Go.join (fun st => ∃ x_5_r6, ∃ s_o0_0_r6, ∃ s_o0_1_r6, ∃ s_o0_2_r6, spec_l00Src_pick_k6 n_1 x_5_r6 s_o0_0_r6 s_o0_1_r6 s_o0_2_r6 = some r ∧ st.norm ([1, 5], [0]) = mk [(1, iv n_1), (5, iv x_5_r6)] [(0, some ⟨0, 0, true, true, false, true, [⟨.imm, 0, 1, .row 1 (List.map (eK .u8) s_o0_0_r6)⟩, ⟨.imm, 0, 0, .sc (.int .i64 s_o0_1_r6)⟩, ⟨.imm, 0, 0, .sc (.int .u64 s_o0_2_r6)⟩]⟩)]) ?_ ?_
    · rintro st ⟨x_5_r6, s_o0_0_r6, s_o0_1_r6, s_o0_2_r6, h, hst⟩
      unfold spec_l00Src_pick_k6 at h
      refine Unw.seq ?_
      refine Go.seq ?_
      obtain ⟨x19, hx19, h⟩ := bs h
      refine Go.r1 c184 rfl rfl hst (sq z184 (oMv rfl rfl) <| sq z184 (oMv rfl rfl) <| sq z184 (oRem rfl hx19 rfl rfl) <| sq z184 (oAsI rfl rfl) <| nl) ?_
      refine Unw.seq ?_
      refine Go.ret (Unw.ret ?_)
      cases h
      exact Fin_ret (fin_of rfl rF184 rfl (by kernel_rfl))
    · intro K3
      by_cases hc4 : n_1 > 200
      · rw [if_pos hc4] at h
        refine Go.condT rfl (iDec.2 hc4) ?_
        obtain ⟨x15, hx15, h⟩ := bs h
        refine Go.r0 c184 rfl rfl (sq z184 (oMv rfl rfl) <| sq z184 (oBi rfl rfl rfl rfl) <| sq z184 (oMv rfl rfl) <| sq z184 (oCa (xs := [.v false [.mp 0 0 0]]) (vs := [(false, [.im 0 _])]) (v := .v false [.im 0 _]) (L_spec_l00Src_next hx15) (.inl rfl) rfl kF248_121 rfl (ppP rfl rfl rfl pp0) rfl rfl (pbP rfl rfl pb0) rfl rfl rfl) <| sq z184 (oBi rfl rfl rfl rfl) <| sq z184 (oAsI rfl rfl) <| nl) ?_
        exact K3 _ ⟨(w64 ((w64 (x9.1 * 256)) + x15.1)), x15.2.code, x15.2.at_, x15.2.seed, h, (by kernel_rfl)⟩
      · rw [if_neg hc4] at h
        refine Go.condF rfl (byF iDec hc4) ?_
        refine Go.skip ?_
        exact K3 _ ⟨x9.1, x9.2.code, x9.2.at_, x9.2.seed, h, (by kernel_rfl)⟩
theorem L_spec_l00Src_text {s_0 : S_l00Src} {list_1 : (List ByteArray)} {r : (ByteArray × S_l00Src)} (h : spec_l00Src_text s_0 list_1 = some r) : FL Try.prog cfg 239 [.ptr true [(.imm, .row 1 (List.map (eK .u8) s_0.code)), (.imm, .sc (.int .i64 s_0.at_)), (.imm, .sc (.int .u64 s_0.seed))], .im 2 false [.row 1 (List.map eS list_1)]] = some ([(false, [.im 0 (.sc (.string r.1))])], [.ptr true [(.imm, .row 1 (List.map (eK .u8) r.2.code)), (.imm, .sc (.int .i64 r.2.at_)), (.imm, .sc (.int .u64 r.2.seed))]]) := by
  unfold spec_l00Src_text at h
  refine FL_goS (A := [(0, .v false [.mp 0 0 0]), (1, .v false [.im 2 (.row 1 (List.map eS list_1))])]) (B := [(0, some ⟨0, 0, true, true, false, true, [⟨.imm, 0, 1, .row 1 (List.map (eK .u8) s_0.code)⟩, ⟨.imm, 0, 0, .sc (.int .i64 s_0.at_)⟩, ⟨.imm, 0, 0, .sc (.int .u64 s_0.seed)⟩]⟩), (1, none)]) (nt := 12) rfl rfl Try.func239 rfl rfl rfl rfl ?_
  refine Go.seq ?_
  refine Go.r0 c239 rfl rfl (sq z239 (oAsI rfl rfl) <| nl) ?_
  refine Unw.seq ?_
  refine Go.seq ?_
  obtain ⟨x9, hx9, h⟩ := bs h
  obtain ⟨x10, hx10, h⟩ := bs h
  refine Go.r0 c239 rfl rfl (sq z239 (oMv rfl rfl) <| sq z239 (oMv rfl rfl) <| sq z239 (oMv rfl rfl) <| sq z239 (oLnI rfl rfl uF296 rfl) <| sq z239 (oCa (xs := [.v false [.mp 0 0 0], .v false [.im 0 _]]) (vs := [(false, [.im 0 _])]) (v := .v false [.im 0 _]) (L_spec_l00Src_pick hx9) (.inl rfl) rfl kF184_121_2 rfl (ppP rfl rfl rfl (ppC rfl pp0)) rfl rfl (pbP rfl rfl pb0) rfl rfl rfl) <| sq z239 (oIAI rfl hx10 sF296 rfl rfl) <| sq z239 (oLd (cs := [.im 2 _]) rfl tF9 rfl rfl) <| sq z239 (oAsI rfl rfl) <| nl) ?_
  refine Unw.seq ?_
  refine Go.ret (Unw.ret ?_)
  cases h
  exact Fin_ret (fin_of rfl rF239 rfl (by kernel_rfl))
theorem L_spec_l00Src_among {s_0 : S_l00Src} {list_1 : (List Int)} {r : (Int × S_l00Src)} (h : spec_l00Src_among s_0 list_1 = some r) : FL Try.prog cfg 99 [.ptr true [(.imm, .row 1 (List.map (eK .u8) s_0.code)), (.imm, .sc (.int .i64 s_0.at_)), (.imm, .sc (.int .u64 s_0.seed))], .im 2 false [.row 1 (List.map eI list_1)]] = some ([(false, [.im 0 (.sc (.int .i64 r.1))])], [.ptr true [(.imm, .row 1 (List.map (eK .u8) r.2.code)), (.imm, .sc (.int .i64 r.2.at_)), (.imm, .sc (.int .u64 r.2.seed))]]) := by
  unfold spec_l00Src_among at h
  refine FL_goS (A := [(0, .v false [.mp 0 0 0]), (1, .v false [.im 2 (.row 1 (List.map eI list_1))])]) (B := [(0, some ⟨0, 0, true, true, false, true, [⟨.imm, 0, 1, .row 1 (List.map (eK .u8) s_0.code)⟩, ⟨.imm, 0, 0, .sc (.int .i64 s_0.at_)⟩, ⟨.imm, 0, 0, .sc (.int .u64 s_0.seed)⟩]⟩), (1, none)]) (nt := 12) rfl rfl Try.func99 rfl rfl rfl rfl ?_
  refine Go.seq ?_
  refine Go.r0 c99 rfl rfl (sq z99 (oAsI rfl rfl) <| nl) ?_
  refine Unw.seq ?_
  refine Go.seq ?_
  obtain ⟨x9, hx9, h⟩ := bs h
  obtain ⟨x10, hx10, h⟩ := bs h
  refine Go.r0 c99 rfl rfl (sq z99 (oMv rfl rfl) <| sq z99 (oMv rfl rfl) <| sq z99 (oMv rfl rfl) <| sq z99 (oLnI rfl rfl uF27 rfl) <| sq z99 (oCa (xs := [.v false [.mp 0 0 0], .v false [.im 0 _]]) (vs := [(false, [.im 0 _])]) (v := .v false [.im 0 _]) (L_spec_l00Src_pick hx9) (.inl rfl) rfl kF184_121_2 rfl (ppP rfl rfl rfl (ppC rfl pp0)) rfl rfl (pbP rfl rfl pb0) rfl rfl rfl) <| sq z99 (oIAI rfl hx10 sF27 rfl rfl) <| sq z99 (oLd (cs := [.im 2 _]) rfl tF2 rfl rfl) <| sq z99 (oAsI rfl rfl) <| nl) ?_
  refine Unw.seq ?_
  refine Go.ret (Unw.ret ?_)
  cases h
  exact Fin_ret (fin_of rfl rF99 rfl (by kernel_rfl))
theorem L_spec_l22DrawOne {s_0 : S_l00Src} {r : (S_Coat × S_l00Src)} (h : spec_l22DrawOne s_0 = some r) : FL Try.prog cfg 247 [.ptr true [(.imm, .row 1 (List.map (eK .u8) s_0.code)), (.imm, .sc (.int .i64 s_0.at_)), (.imm, .sc (.int .u64 s_0.seed))]] = some ([(true, [.im 0 (.sc (.string r.1.Name)), .im 0 (.sc (.int .i64 r.1.Work)), .im 0 (.sc (.int .i64 r.1.Dry)), .im 0 (.sc (.int .i64 r.1.Wait))])], [.ptr true [(.imm, .row 1 (List.map (eK .u8) r.2.code)), (.imm, .sc (.int .i64 r.2.at_)), (.imm, .sc (.int .u64 r.2.seed))]]) := by
  unfold spec_l22DrawOne at h
  refine FL_goS (A := [(0, .v false [.mp 0 0 0])]) (B := [(0, some ⟨0, 0, true, true, false, true, [⟨.imm, 0, 1, .row 1 (List.map (eK .u8) s_0.code)⟩, ⟨.imm, 0, 0, .sc (.int .i64 s_0.at_)⟩, ⟨.imm, 0, 0, .sc (.int .u64 s_0.seed)⟩]⟩)]) (nt := 52) rfl rfl Try.func247 rfl rfl rfl rfl ?_
  refine Go.seq ?_
  refine Go.r0 c247 rfl rfl (sq z247 (oAl rfl tF128 (tkI (tkI (tkI (tkI tk0))))) <| nl) ?_
  refine Unw.seq ?_
  refine Go.seq ?_
  obtain ⟨x6, hx6, h⟩ := bs h
  obtain ⟨x8, hx8, h⟩ := bs h
  refine Go.r0 c247 rfl rfl (sq z247 (oMv rfl rfl) <| sq z247 (oBS (es := List.map eS ([(⟨#[111, 105, 108]⟩ : ByteArray), (⟨#[119, 97, 120]⟩ : ByteArray), (⟨#[115, 104, 101, 108, 108, 97, 99]⟩ : ByteArray)] : List ByteArray)) rfl sF296 rfl (ptC rfl (fxI fx0) rfl (ptC rfl (fxI fx0) rfl (ptC rfl (fxI fx0) rfl pt0))) (flat0 rfl fun _ => rfl)) <| sq z247 (oCa (xs := [.v false [.mp 0 0 0], .v false [.own 5 0 0]]) (vs := [(false, [.im 0 _])]) (v := .v false [.im 0 _]) (L_spec_l00Src_text hx6) (.inl rfl) rfl kF239_121_296 rfl (ppP rfl rfl rfl (ppC rfl pp0)) rfl rfl (pbP rfl rfl pb0) rfl rfl rfl) <| sq z247 (oMv rfl rfl) <| sq z247 (oCa (xs := [.v false [.mp 0 0 0], .v false [.im 0 _]]) (vs := [(false, [.im 0 _])]) (v := .v false [.im 0 _]) (L_spec_l00Src_pick hx8) (.inl rfl) rfl kF184_121_2 rfl (ppP rfl rfl rfl (ppC rfl pp0)) rfl rfl (pbP rfl rfl pb0) rfl rfl rfl) <| sq z247 (oBi rfl rfl rfl rfl) <| sq z247 (oBu (cs := [.im 0 _, .im 0 _, .im 0 _, .im 0 _]) rfl bF128 rfl) <| sq z247 (oAl rfl tF128 (tkI (tkI (tkI (tkI tk0))))) <| sq z247 (oSt tF128 rfl rfl rfl (tkI (tkI (tkI (tkI tk0)))) rfl rfl rfl) <| nl) ?_
  refine Unw.seq ?_
  refine Go.seq ?_
  obtain ⟨x13, hx13, h⟩ := bs h
  refine Go.r1 c247 rfl rfl (st1 := mk [(0, .v false [.mp 0 0 0]), (2, .v false [.mp 2 0 0]), (3, .v false [.mp 3 0 0])] [(0, some ⟨0, 0, true, true, false, true, [⟨.imm, 0, 1, .row 1 (List.map (eK .u8) x8.2.code)⟩, ⟨.imm, 0, 0, .sc (.int .i64 x8.2.at_)⟩, ⟨.imm, 0, 0, .sc (.int .u64 x8.2.seed)⟩]⟩), (2, some ⟨0, 0, false, true, false, true, [⟨.imm, 0, 0, .sc (.string (⟨#[]⟩ : ByteArray))⟩, ⟨.imm, 0, 0, .sc (.int .i64 0)⟩, ⟨.imm, 0, 0, .sc (.int .i64 0)⟩, ⟨.imm, 0, 0, .sc (.int .i64 0)⟩]⟩), (3, some ⟨0, 0, false, true, false, true, [⟨.imm, 0, 0, .sc (.string x6.1)⟩, ⟨.imm, 0, 0, .sc (.int .i64 (w64 (1 + x8.1)))⟩, ⟨.imm, 0, 0, .sc (.int .i64 0)⟩, ⟨.imm, 0, 0, .sc (.int .i64 0)⟩]⟩)]) (by kernel_rfl) (sq z247 (oMv rfl rfl) <| sq z247 (oBS (es := List.map eI ([0, 4, 16, 48, 80, 20] : List Int)) rfl sF27 rfl (ptC rfl (fxI fx0) rfl (ptC rfl (fxI fx0) rfl (ptC rfl (fxI fx0) rfl (ptC rfl (fxI fx0) rfl (ptC rfl (fxI fx0) rfl (ptC rfl (fxI fx0) rfl pt0)))))) (flat0 rfl fun _ => rfl)) <| sq z247 (oCa (xs := [.v false [.mp 0 0 0], .v false [.own 12 0 0]]) (vs := [(false, [.im 0 _])]) (v := .v false [.im 0 _]) (L_spec_l00Src_among hx13) (.inl rfl) rfl kF99_121_27 rfl (ppP rfl rfl rfl (ppC rfl pp0)) rfl rfl (pbP rfl rfl pb0) rfl rfl rfl) <| sq z247 (oFA (r' := .mp 3 0 2) rfl fF128_2 rfl rfl) <| sq z247 (oSt tF2 rfl rfl rfl (tkI tk0) rfl rfl rfl) <| nl) ?_
  refine Unw.seq ?_
  refine Go.seq ?_
  obtain ⟨x19, hx19, h⟩ := bs h
  refine Go.dr c247 rfl rfl rfl (st1 := mk [(0, .v false [.mp 0 0 0]), (2, .v false [.mp 2 0 0]), (3, .v false [.mp 3 0 0])] [(0, some ⟨0, 0, true, true, false, true, [⟨.imm, 0, 1, .row 1 (List.map (eK .u8) x13.2.code)⟩, ⟨.imm, 0, 0, .sc (.int .i64 x13.2.at_)⟩, ⟨.imm, 0, 0, .sc (.int .u64 x13.2.seed)⟩]⟩), (2, some ⟨0, 0, false, true, false, true, [⟨.imm, 0, 0, .sc (.string (⟨#[]⟩ : ByteArray))⟩, ⟨.imm, 0, 0, .sc (.int .i64 0)⟩, ⟨.imm, 0, 0, .sc (.int .i64 0)⟩, ⟨.imm, 0, 0, .sc (.int .i64 0)⟩]⟩), (3, some ⟨0, 0, false, true, false, true, [⟨.imm, 0, 0, .sc (.string x6.1)⟩, ⟨.imm, 0, 0, .sc (.int .i64 (w64 (1 + x8.1)))⟩, ⟨.imm, 0, 0, .sc (.int .i64 x13.1)⟩, ⟨.imm, 0, 0, .sc (.int .i64 0)⟩]⟩)]) (by kernel_rfl) (mk [(0, .v false [.mp 0 0 0]), (2, .v false [.mp 2 0 0]), (3, .v false [.mp 3 0 0])] [(0, some ⟨0, 0, true, true, false, true, [⟨.imm, 0, 1, .row 1 (List.map (eK .u8) x19.2.code)⟩, ⟨.imm, 0, 0, .sc (.int .i64 x19.2.at_)⟩, ⟨.imm, 0, 0, .sc (.int .u64 x19.2.seed)⟩]⟩), (2, some ⟨0, 0, false, true, false, true, [⟨.imm, 0, 0, .sc (.string (⟨#[]⟩ : ByteArray))⟩, ⟨.imm, 0, 0, .sc (.int .i64 0)⟩, ⟨.imm, 0, 0, .sc (.int .i64 0)⟩, ⟨.imm, 0, 0, .sc (.int .i64 0)⟩]⟩), (3, some ⟨0, 0, false, true, false, true, [⟨.imm, 0, 0, .sc (.string x6.1)⟩, ⟨.imm, 0, 0, .sc (.int .i64 (w64 (1 + x8.1)))⟩, ⟨.imm, 0, 0, .sc (.int .i64 x13.1)⟩, ⟨.imm, 0, 0, .sc (.int .i64 (w64 (x13.1 + x19.1)))⟩]⟩)]) (sT rfl (dN z247 rfl (oMv rfl rfl)) <| sK (O := [3]) rfl rfl rfl (dN z247 rfl (oFA (r' := .mp 3 0 2) rfl fF128_2 rfl rfl)) <| sK (O := [3]) rfl rfl rfl (dN z247 rfl (oLd (cs := [.im 0 _]) rfl tF2 rfl rfl)) <| sS (dN z247 rfl (oBS (es := List.map eI ([0, 8, 40, 96, 60] : List Int)) rfl sF27 rfl (ptC rfl (fxI fx0) rfl (ptC rfl (fxI fx0) rfl (ptC rfl (fxI fx0) rfl (ptC rfl (fxI fx0) rfl (ptC rfl (fxI fx0) rfl pt0))))) (flat0 rfl fun _ => rfl))) (kY ⟨rfl, trivial⟩ (kY ⟨rfl, trivial⟩ trivial)) (sS (dN z247 rfl (oCa (xs := [.v false [.mp 0 0 0], .v false [.own 18 0 0]]) (vs := [(false, [.im 0 _])]) (v := .v false [.im 0 _]) (L_spec_l00Src_among hx19) (.inl rfl) rfl kF99_121_27 rfl (ppP rfl rfl rfl (ppC rfl pp0)) rfl rfl (pbP rfl rfl pb0) rfl rfl rfl)) (kY ⟨rfl, trivial⟩ (kY ⟨rfl, trivial⟩ trivial)) (sT rfl (dN z247 rfl (oBi rfl rfl rfl rfl)) <| sT rfl (dN z247 rfl (oFA (r' := .mp 3 0 3) rfl fF128_3 rfl rfl)) <| sS (dN z247 rfl (oSt tF2 rfl rfl rfl (tkI tk0) rfl rfl rfl)) (kN rfl (kN rfl trivial)) (sD (by kernel_rfl))))) ?_
  refine Unw.seq ?_
  refine Go.seq ?_
  refine Go.seq ?_
  obtain ⟨x23, hx23, h⟩ := bs h
  refine Go.r0 c247 rfl rfl (sq z247 (oMv rfl rfl) <| sq z247 (oCa (xs := [.v false [.mp 0 0 0], .v false [.im 0 _]]) (vs := [(false, [.im 0 _])]) (v := .v false [.im 0 _]) (L_spec_l00Src_pick hx23) (.inl rfl) rfl kF184_121_2 rfl (ppP rfl rfl rfl (ppC rfl pp0)) rfl rfl (pbP rfl rfl pb0) rfl rfl rfl) <| nl) ?_
  refine Unw.seq ?_
  refine Go.join (fun st => ∃ s_o0_0_r13, ∃ s_o0_1_r13, ∃ s_o0_2_r13, ∃ c_o3_0_r13, ∃ c_o3_1_r13, ∃ c_o3_2_r13, ∃ c_o3_3_r13, spec_l22DrawOne_k13 s_o0_0_r13 s_o0_1_r13 s_o0_2_r13 c_o3_0_r13 c_o3_1_r13 c_o3_2_r13 c_o3_3_r13 = some r ∧ st.norm ([2, 3], [0, 2, 3]) = mk [(2, .v false [.mp 2 0 0]), (3, .v false [.mp 3 0 0])] [(0, some ⟨0, 0, true, true, false, true, [⟨.imm, 0, 1, .row 1 (List.map (eK .u8) s_o0_0_r13)⟩, ⟨.imm, 0, 0, .sc (.int .i64 s_o0_1_r13)⟩, ⟨.imm, 0, 0, .sc (.int .u64 s_o0_2_r13)⟩]⟩), (2, some ⟨0, 0, false, true, false, true, [⟨.imm, 0, 0, .sc (.string (⟨#[]⟩ : ByteArray))⟩, ⟨.imm, 0, 0, .sc (.int .i64 0)⟩, ⟨.imm, 0, 0, .sc (.int .i64 0)⟩, ⟨.imm, 0, 0, .sc (.int .i64 0)⟩]⟩), (3, some ⟨0, 0, false, true, false, true, [⟨.imm, 0, 0, .sc (.string c_o3_0_r13)⟩, ⟨.imm, 0, 0, .sc (.int .i64 c_o3_1_r13)⟩, ⟨.imm, 0, 0, .sc (.int .i64 c_o3_2_r13)⟩, ⟨.imm, 0, 0, .sc (.int .i64 c_o3_3_r13)⟩]⟩)]) ?_ ?_
  · rintro st ⟨s_o0_0_r13, s_o0_1_r13, s_o0_2_r13, c_o3_0_r13, c_o3_1_r13, c_o3_2_r13, c_o3_3_r13, h, hst⟩
    unfold spec_l22DrawOne_k13 at h
    refine Unw.seq ?_
    refine Go.seq ?_
    refine Go.r1 c247 rfl rfl hst (sq z247 (oLd (cs := [.im 0 _, .im 0 _, .im 0 _, .im 0 _]) rfl tF128 rfl rfl) <| sq z247 (oSt tF128 rfl rfl rfl (tkI (tkI (tkI (tkI tk0)))) rfl rfl rfl) <| nl) ?_
    refine Unw.seq ?_
    refine Go.ret (Unw.ret ?_)
    cases h
    exact Fin_ret (fin_of rfl rF247 rfl (by kernel_rfl))
  · intro K5
    refine Go.block ?_
    refine Go.seq ?_
    refine Go.r1 c247 rfl rfl (st1 := mk [(0, .v false [.mp 0 0 0]), (2, .v false [.mp 2 0 0]), (3, .v false [.mp 3 0 0]), (23, iv x23.1)] [(0, some ⟨0, 0, true, true, false, true, [⟨.imm, 0, 1, .row 1 (List.map (eK .u8) x23.2.code)⟩, ⟨.imm, 0, 0, .sc (.int .i64 x23.2.at_)⟩, ⟨.imm, 0, 0, .sc (.int .u64 x23.2.seed)⟩]⟩), (2, some ⟨0, 0, false, true, false, true, [⟨.imm, 0, 0, .sc (.string (⟨#[]⟩ : ByteArray))⟩, ⟨.imm, 0, 0, .sc (.int .i64 0)⟩, ⟨.imm, 0, 0, .sc (.int .i64 0)⟩, ⟨.imm, 0, 0, .sc (.int .i64 0)⟩]⟩), (3, some ⟨0, 0, false, true, false, true, [⟨.imm, 0, 0, .sc (.string x6.1)⟩, ⟨.imm, 0, 0, .sc (.int .i64 (w64 (1 + x8.1)))⟩, ⟨.imm, 0, 0, .sc (.int .i64 x13.1)⟩, ⟨.imm, 0, 0, .sc (.int .i64 (w64 (x13.1 + x19.1)))⟩]⟩)]) (by kernel_rfl) (sq z247 (oBi rfl rfl rfl rfl) <| sq z247 (oAsI rfl rfl) <| nl) ?_
    refine Unw.seq ?_
    by_cases hc6 : x23.1 = 0
    · rw [if_pos hc6] at h
      refine Go.condT rfl (iEq.2 hc6) ?_
      obtain ⟨x28, hx28, h⟩ := bs h
      refine Go.r0 c247 rfl rfl (sq z247 (oMv rfl rfl) <| sq z247 (oBS (es := List.map eI ([0, 32, 33] : List Int)) rfl sF27 rfl (ptC rfl (fxI fx0) rfl (ptC rfl (fxI fx0) rfl (ptC rfl (fxI fx0) rfl pt0))) (flat0 rfl fun _ => rfl)) <| sq z247 (oCa (xs := [.v false [.mp 0 0 0], .v false [.own 27 0 0]]) (vs := [(false, [.im 0 _])]) (v := .v false [.im 0 _]) (L_spec_l00Src_among hx28) (.inl rfl) rfl kF99_121_27 rfl (ppP rfl rfl rfl (ppC rfl pp0)) rfl rfl (pbP rfl rfl pb0) rfl rfl rfl) <| sq z247 (oFA (r' := .mp 3 0 1) rfl fF128_1 rfl rfl) <| sq z247 (oSt tF2 rfl rfl rfl (tkI tk0) rfl rfl rfl) <| nl) ?_
      refine Unw.blk ?_
      exact K5 _ ⟨x28.2.code, x28.2.at_, x28.2.seed, x6.1, x28.1, x13.1, (w64 (x13.1 + x19.1)), h, (by kernel_rfl)⟩
    · rw [if_neg hc6] at h
      refine Go.condF rfl (byF iEq hc6) ?_
      refine Go.seq ?_
      refine Go.r0 c247 rfl rfl (sq z247 (oBi rfl rfl rfl rfl) <| sq z247 (oAsI rfl rfl) <| nl) ?_
      refine Unw.seq ?_
      by_cases hc7 : x23.1 = 1
      · rw [if_pos hc7] at h
        refine Go.condT rfl (iEq.2 hc7) ?_
        obtain ⟨x34, hx34, h⟩ := bs h
        refine Go.r0 c247 rfl rfl (sq z247 (oMv rfl rfl) <| sq z247 (oBS (es := List.map eI ([(-1), 400, 401] : List Int)) rfl sF27 rfl (ptC rfl (fxI fx0) rfl (ptC rfl (fxI fx0) rfl (ptC rfl (fxI fx0) rfl pt0))) (flat0 rfl fun _ => rfl)) <| sq z247 (oCa (xs := [.v false [.mp 0 0 0], .v false [.own 33 0 0]]) (vs := [(false, [.im 0 _])]) (v := .v false [.im 0 _]) (L_spec_l00Src_among hx34) (.inl rfl) rfl kF99_121_27 rfl (ppP rfl rfl rfl (ppC rfl pp0)) rfl rfl (pbP rfl rfl pb0) rfl rfl rfl) <| sq z247 (oFA (r' := .mp 3 0 2) rfl fF128_2 rfl rfl) <| sq z247 (oSt tF2 rfl rfl rfl (tkI tk0) rfl rfl rfl) <| nl) ?_
        refine Unw.blk ?_
        exact K5 _ ⟨x34.2.code, x34.2.at_, x34.2.seed, x6.1, (w64 (1 + x8.1)), x34.1, (w64 (x13.1 + x19.1)), h, (by kernel_rfl)⟩
      · rw [if_neg hc7] at h
        refine Go.condF rfl (byF iEq hc7) ?_
        refine Go.seq ?_
        refine Go.r0 c247 rfl rfl (sq z247 (oBi rfl rfl rfl rfl) <| sq z247 (oAsI rfl rfl) <| nl) ?_
        refine Unw.seq ?_
        by_cases hc8 : x23.1 = 2
        · rw [if_pos hc8] at h
          refine Go.condT rfl (iEq.2 hc8) ?_
          obtain ⟨x43, hx43, h⟩ := bs h
          refine Go.r0 c247 rfl rfl (sq z247 (oMv rfl rfl) <| sq z247 (oFA (r' := .mp 3 0 2) rfl fF128_2 rfl rfl) <| sq z247 (oLd (cs := [.im 0 _]) rfl tF2 rfl rfl) <| sq z247 (oBi rfl rfl rfl rfl) <| sq z247 (oBS (es := List.map eI ([(w64 (x13.1 - 1)), 800, 801] : List Int)) rfl sF27 rfl (ptC rfl (fxI fx0) rfl (ptC rfl (fxI fx0) rfl (ptC rfl (fxI fx0) rfl pt0))) (flat0 rfl fun _ => rfl)) <| sq z247 (oCa (xs := [.v false [.mp 0 0 0], .v false [.own 42 0 0]]) (vs := [(false, [.im 0 _])]) (v := .v false [.im 0 _]) (L_spec_l00Src_among hx43) (.inl rfl) rfl kF99_121_27 rfl (ppP rfl rfl rfl (ppC rfl pp0)) rfl rfl (pbP rfl rfl pb0) rfl rfl rfl) <| sq z247 (oFA (r' := .mp 3 0 3) rfl fF128_3 rfl rfl) <| sq z247 (oSt tF2 rfl rfl rfl (tkI tk0) rfl rfl rfl) <| nl) ?_
          refine Unw.blk ?_
          exact K5 _ ⟨x43.2.code, x43.2.at_, x43.2.seed, x6.1, (w64 (1 + x8.1)), x13.1, x43.1, h, (by kernel_rfl)⟩
        · rw [if_neg hc8] at h
          refine Go.condF rfl (byF iEq hc8) ?_
          refine Go.seq ?_
          refine Go.r0 c247 rfl rfl (sq z247 (oBi rfl rfl rfl rfl) <| sq z247 (oAsI rfl rfl) <| nl) ?_
          refine Unw.seq ?_
          by_cases hc9 : x23.1 = 3
          · rw [if_pos hc9] at h
            refine Go.condT rfl (iEq.2 hc9) ?_
            obtain ⟨x49, hx49, h⟩ := bs h
            refine Go.r0 c247 rfl rfl (sq z247 (oMv rfl rfl) <| sq z247 (oBS (es := List.map eS ([(⟨#[]⟩ : ByteArray), (⟨#[87]⟩ : ByteArray)] : List ByteArray)) rfl sF296 rfl (ptC rfl (fxI fx0) rfl (ptC rfl (fxI fx0) rfl pt0)) (flat0 rfl fun _ => rfl)) <| sq z247 (oCa (xs := [.v false [.mp 0 0 0], .v false [.own 48 0 0]]) (vs := [(false, [.im 0 _])]) (v := .v false [.im 0 _]) (L_spec_l00Src_text hx49) (.inl rfl) rfl kF239_121_296 rfl (ppP rfl rfl rfl (ppC rfl pp0)) rfl rfl (pbP rfl rfl pb0) rfl rfl rfl) <| sq z247 (oFA (r' := .mp 3 0 0) rfl fF128_0 rfl rfl) <| sq z247 (oSt tF9 rfl rfl rfl (tkI tk0) rfl rfl rfl) <| nl) ?_
            refine Unw.blk ?_
            exact K5 _ ⟨x49.2.code, x49.2.at_, x49.2.seed, x49.1, (w64 (1 + x8.1)), x13.1, (w64 (x13.1 + x19.1)), h, (by kernel_rfl)⟩
          · rw [if_neg hc9] at h
            refine Go.condF rfl (byF iEq hc9) ?_
            refine Go.skip ?_
            refine Unw.blk ?_
            exact K5 _ ⟨x23.2.code, x23.2.at_, x23.2.seed, x6.1, (w64 (1 + x8.1)), x13.1, (w64 (x13.1 + x19.1)), h, (by kernel_rfl)⟩
theorem L_spec_l00Src_one {s_0 : S_l00Src} {n_1 : Int} {r : (Bool × S_l00Src)} (h : spec_l00Src_one s_0 n_1 = some r) : FL Try.prog cfg 183 [.ptr true [(.imm, .row 1 (List.map (eK .u8) s_0.code)), (.imm, .sc (.int .i64 s_0.at_)), (.imm, .sc (.int .u64 s_0.seed))], .im 2 false [.sc (.int .i64 n_1)]] = some ([(false, [.im 0 (.sc (.bool r.1))])], [.ptr true [(.imm, .row 1 (List.map (eK .u8) r.2.code)), (.imm, .sc (.int .i64 r.2.at_)), (.imm, .sc (.int .u64 r.2.seed))]]) := by
  unfold spec_l00Src_one at h
  refine FL_goS (A := [(0, .v false [.mp 0 0 0]), (1, .v false [.im 2 (.sc (.int .i64 n_1))])]) (B := [(0, some ⟨0, 0, true, true, false, true, [⟨.imm, 0, 1, .row 1 (List.map (eK .u8) s_0.code)⟩, ⟨.imm, 0, 0, .sc (.int .i64 s_0.at_)⟩, ⟨.imm, 0, 0, .sc (.int .u64 s_0.seed)⟩]⟩), (1, none)]) (nt := 9) rfl rfl Try.func183 rfl rfl rfl rfl ?_
  refine Go.seq ?_
  refine Go.r0 c183 rfl rfl (sq z183 (oAsI rfl rfl) <| nl) ?_
  refine Unw.seq ?_
  refine Go.seq ?_
  obtain ⟨x7, hx7, h⟩ := bs h
  refine Go.r0 c183 rfl rfl (sq z183 (oMv rfl rfl) <| sq z183 (oMv rfl rfl) <| sq z183 (oCa (xs := [.v false [.mp 0 0 0], .v false [.im 2 _]]) (vs := [(false, [.im 0 _])]) (v := .v false [.im 0 _]) (L_spec_l00Src_pick hx7) (.inl rfl) rfl kF184_121_2 rfl (ppP rfl rfl rfl (ppC rfl pp0)) rfl rfl (pbP rfl rfl pb0) rfl rfl rfl) <| sq z183 (oBi rfl rfl rfl rfl) <| sq z183 (oAsI rfl rfl) <| nl) ?_
  refine Unw.seq ?_
  refine Go.ret (Unw.ret ?_)
  cases h
  exact Fin_ret (fin_of rfl rF183 rfl (by kernel_rfl))
theorem L_spec_l22DrawList {s_0 : S_l00Src} {r : ((List S_Coat) × S_l00Src)} (h : spec_l22DrawList s_0 = some r) : FL Try.prog cfg 182 [.ptr true [(.imm, .row 1 (List.map (eK .u8) s_0.code)), (.imm, .sc (.int .i64 s_0.at_)), (.imm, .sc (.int .u64 s_0.seed))]] = some ([(false, [.ow 0 4 (List.map e_S_Coat r.1)])], [.ptr true [(.imm, .row 1 (List.map (eK .u8) r.2.code)), (.imm, .sc (.int .i64 r.2.at_)), (.imm, .sc (.int .u64 r.2.seed))]]) := by
  unfold spec_l22DrawList at h
  refine FL_goS (A := [(0, .v false [.mp 0 0 0])]) (B := [(0, some ⟨0, 0, true, true, false, true, [⟨.imm, 0, 1, .row 1 (List.map (eK .u8) s_0.code)⟩, ⟨.imm, 0, 0, .sc (.int .i64 s_0.at_)⟩, ⟨.imm, 0, 0, .sc (.int .u64 s_0.seed)⟩]⟩)]) (nt := 35) rfl rfl Try.func182 rfl rfl rfl rfl ?_
  refine Go.seq ?_
  refine Go.r0 c182 rfl rfl (sq z182 (oAsN rfl rfl eF24) <| nl) ?_
  refine Unw.seq ?_
  refine Go.seq ?_
  refine Go.r0 c182 rfl rfl (sq z182 (oBS (es := List.map e_S_Coat ([] : List S_Coat)) rfl sF24 rfl pt0 (flat0 rfl fun _ => rfl)) <| sq z182 (oAsO rfl rfl rfl rfl rfl) <| nl) ?_
  refine Unw.seq ?_
  refine Go.seq ?_
  refine Go.seq ?_
  obtain ⟨x9, hx9, h⟩ := bs h
  refine Go.r0 c182 rfl rfl (sq z182 (oMv rfl rfl) <| sq z182 (oCa (xs := [.v false [.mp 0 0 0], .v false [.im 0 _]]) (vs := [(false, [.im 0 _])]) (v := .v false [.im 0 _]) (L_spec_l00Src_pick hx9) (.inl rfl) rfl kF184_121_2 rfl (ppP rfl rfl rfl (ppC rfl pp0)) rfl rfl (pbP rfl rfl pb0) rfl rfl rfl) <| sq z182 (oAsI rfl rfl) <| nl) ?_
  refine Unw.seq ?_
  refine Go.block ?_
  obtain ⟨o, hl, h⟩ := bs h
  refine Go.lp c182 rfl _ (fun (s : (Int × (List Int) × Int × Int × (List S_Coat))) => match s with | (k_4_l3, s_o0_0_l3, s_o0_1_l3, s_o0_2_l3, out_o3_l3) => mk [(0, .v false [.mp 0 0 0]), (3, .v false [.own 3 0 0]), (4, iv k_4_l3)] [(0, some ⟨0, 0, true, true, false, true, [⟨.imm, 0, 1, .row 1 (List.map (eK .u8) s_o0_0_l3)⟩, ⟨.imm, 0, 0, .sc (.int .i64 s_o0_1_l3)⟩, ⟨.imm, 0, 0, .sc (.int .u64 s_o0_2_l3)⟩]⟩), (3, some ⟨0, 0, false, false, false, false, [⟨.sh, 0, 0, .row 4 (List.map e_S_Coat out_o3_l3)⟩]⟩)]) (fun (o : ((List Int) × Int × Int × (List S_Coat))) (p : Ex × St) => match o with | (s_o0_0_e0_3, s_o0_1_e0_3, s_o0_2_e0_3, out_o3_e0_3) => p.1 = .exit 0 ∧ p.2.norm ([0, 3], [0, 3]) = mk [(0, .v false [.mp 0 0 0]), (3, .v false [.own 3 0 0])] [(0, some ⟨0, 0, true, true, false, true, [⟨.imm, 0, 1, .row 1 (List.map (eK .u8) s_o0_0_e0_3)⟩, ⟨.imm, 0, 0, .sc (.int .i64 s_o0_1_e0_3)⟩, ⟨.imm, 0, 0, .sc (.int .u64 s_o0_2_e0_3)⟩]⟩), (3, some ⟨0, 0, false, false, false, false, [⟨.sh, 0, 0, .row 4 (List.map e_S_Coat out_o3_e0_3)⟩]⟩)]) hl (by kernel_rfl) ?_ ?_ ?_
  · intro o p hp e
    obtain ⟨s_o0_0_e0_3, s_o0_1_e0_3, s_o0_2_e0_3, out_o3_e0_3⟩ := o
    exact nomatch (hp.1.symm.trans e)
  · rintro ⟨k_4_l3, s_o0_0_l3, s_o0_1_l3, s_o0_2_l3, out_o3_l3⟩ o h
    unfold spec_l22DrawList_l3 at h
    dsimp only at h
    refine Go.seq ?_
    refine Go.seq ?_
    refine Go.r0 c182 rfl rfl (sq z182 (oMv rfl rfl) <| sq z182 (oBi rfl rfl rfl rfl) <| nl) ?_
    refine Unw.seq ?_
    by_cases hc11 : k_4_l3 > 0
    · rw [if_pos hc11] at h
      refine Go.condT rfl (iDec.2 hc11) ?_
      refine Go.skip ?_
      refine Unw.seq ?_
      refine Go.seq ?_
      refine Go.block ?_
      obtain ⟨x16, hx16, h⟩ := bs h
      obtain ⟨x18, hx18, h⟩ := bs h
      refine Go.r0 c182 rfl rfl (sq z182 (oMv rfl rfl) <| sq z182 (oMv rfl rfl) <| sq z182 (oCa (xs := [.v false [.mp 0 0 0]]) (vs := [(true, [.im 0 _, .im 0 _, .im 0 _, .im 0 _])]) (v := .v true [.im 0 _, .im 0 _, .im 0 _, .im 0 _]) (L_spec_l22DrawOne hx16) (.inl rfl) rfl kF247_121 rfl (ppP rfl rfl rfl pp0) rfl rfl (pbP rfl rfl pb0) rfl rfl rfl) <| sq z182 (oBS (es := List.map e_S_Coat ([x16.1] : List S_Coat)) rfl sF24 rfl (ptC rfl (fxI (fxI (fxI (fxI fx0)))) rfl pt0) (flat0 rfl fun _ => rfl)) <| sq z182 (oApO (en := e_S_Coat) (M := ([x16.1] : List S_Coat)) rfl hx18 rfl sF24 rfl rfl uF24 (.inl ⟨_, rfl⟩) rfl rfl rfl rfl (el_own rfl rfl) (flat0 rfl fun _ => rfl)) <| sq z182 (oAsO rfl rfl rfl rfl rfl) <| nl) ?_
      refine Unw.blk ?_
      refine Unw.seq ?_
      refine Go.r1 c182 rfl rfl (st1 := mk [(0, .v false [.mp 0 0 0]), (3, .v false [.own 3 0 0]), (4, iv k_4_l3)] [(0, some ⟨0, 0, true, true, false, true, [⟨.imm, 0, 1, .row 1 (List.map (eK .u8) x16.2.code)⟩, ⟨.imm, 0, 0, .sc (.int .i64 x16.2.at_)⟩, ⟨.imm, 0, 0, .sc (.int .u64 x16.2.seed)⟩]⟩), (3, some ⟨0, 0, false, false, false, false, [⟨.sh, 0, 0, .row 4 (List.map e_S_Coat x18)⟩]⟩)]) (by kernel_rfl) (sq z182 (oMv rfl rfl) <| sq z182 (oBi rfl rfl rfl rfl) <| sq z182 (oAsI rfl rfl) <| nl) ?_
      refine Unw.nil ?_
      cases h
      exact ⟨rfl, (by kernel_rfl)⟩
    · rw [if_neg hc11] at h
      refine Go.condF rfl (byF iDec hc11) ?_
      refine Go.exit ?_
      refine Unw.seqx ?_
      refine Unw.nil ?_
      cases h
      exact ⟨rfl, (by kernel_rfl)⟩
  · rintro ⟨e, st⟩ hp
    obtain ⟨s_o0_0_e0_3, s_o0_1_e0_3, s_o0_2_e0_3, out_o3_e0_3⟩ := o
    dsimp only at h
    obtain ⟨he, hst⟩ := hp
    obtain rfl : e = .exit 0 := he
    refine Unw.blkx ?_
    refine Unw.seq ?_
    refine Go.seq ?_
    refine Go.seq ?_
    obtain ⟨x20, hx20, h⟩ := bs h
    refine Go.r1 c182 rfl rfl hst (sq z182 (oMv rfl rfl) <| sq z182 (oCa (xs := [.v false [.mp 0 0 0], .v false [.im 0 _]]) (vs := [(false, [.im 0 _])]) (v := .v false [.im 0 _]) (L_spec_l00Src_one hx20) (.inl rfl) rfl kF183_121_2 rfl (ppP rfl rfl rfl (ppC rfl pp0)) rfl rfl (pbP rfl rfl pb0) rfl rfl rfl) <| nl) ?_
    refine Unw.seq ?_
    refine Go.join (fun st => ∃ s_o0_0_r13, ∃ s_o0_1_r13, ∃ s_o0_2_r13, ∃ out_o3_r13, spec_l22DrawList_k13 s_o0_0_r13 s_o0_1_r13 s_o0_2_r13 out_o3_r13 = some r ∧ st.norm ([3], [0, 3]) = mk [(3, .v false [.own 3 0 0])] [(0, some ⟨0, 0, true, true, false, true, [⟨.imm, 0, 1, .row 1 (List.map (eK .u8) s_o0_0_r13)⟩, ⟨.imm, 0, 0, .sc (.int .i64 s_o0_1_r13)⟩, ⟨.imm, 0, 0, .sc (.int .u64 s_o0_2_r13)⟩]⟩), (3, some ⟨0, 0, false, false, false, false, [⟨.sh, 0, 0, .row 4 (List.map e_S_Coat out_o3_r13)⟩]⟩)]) ?_ ?_
    · rintro st ⟨s_o0_0_r13, s_o0_1_r13, s_o0_2_r13, out_o3_r13, h, hst⟩
      unfold spec_l22DrawList_k13 at h
      refine Unw.seq ?_
      refine Go.seq ?_
      refine Go.r1 c182 rfl rfl hst (sq z182 (oMv rfl rfl) <| sq z182 (oAsO rfl rfl rfl rfl rfl) <| nl) ?_
      refine Unw.seq ?_
      refine Go.ret (Unw.ret ?_)
      cases h
      exact Fin_ret (fin_of rfl rF182 rfl (by kernel_rfl))
    · intro K6
      by_cases hc7 : x20.1 = true
      · rw [if_pos hc7] at h
        refine Go.condT rfl (Iff.rfl.2 hc7) ?_
        refine Go.seq ?_
        obtain ⟨x23, hx23, h⟩ := bs h
        refine Go.r1 c182 rfl rfl (st1 := mk [(0, .v false [.mp 0 0 0])] [(0, some ⟨0, 0, true, true, false, true, [⟨.imm, 0, 1, .row 1 (List.map (eK .u8) x20.2.code)⟩, ⟨.imm, 0, 0, .sc (.int .i64 x20.2.at_)⟩, ⟨.imm, 0, 0, .sc (.int .u64 x20.2.seed)⟩]⟩)]) (by kernel_rfl) (sq z182 (oMv rfl rfl) <| sq z182 (oBS (es := List.map eI ([8, 9] : List Int)) rfl sF27 rfl (ptC rfl (fxI fx0) rfl (ptC rfl (fxI fx0) rfl pt0)) (flat0 rfl fun _ => rfl)) <| sq z182 (oCa (xs := [.v false [.mp 0 0 0], .v false [.own 22 0 0]]) (vs := [(false, [.im 0 _])]) (v := .v false [.im 0 _]) (L_spec_l00Src_among hx23) (.inl rfl) rfl kF99_121_27 rfl (ppP rfl rfl rfl (ppC rfl pp0)) rfl rfl (pbP rfl rfl pb0) rfl rfl rfl) <| sq z182 (oAsI rfl rfl) <| nl) ?_
        refine Unw.seq ?_
        refine Go.seq ?_
        refine Go.r1 c182 rfl rfl (st1 := mk [(5, iv x23.1)] [(0, some ⟨0, 0, true, true, false, true, [⟨.imm, 0, 1, .row 1 (List.map (eK .u8) x23.2.code)⟩, ⟨.imm, 0, 0, .sc (.int .i64 x23.2.at_)⟩, ⟨.imm, 0, 0, .sc (.int .u64 x23.2.seed)⟩]⟩)]) (by kernel_rfl) (sq z182 (oBS (es := List.map e_S_Coat ([] : List S_Coat)) rfl sF24 rfl pt0 (flat0 rfl fun _ => rfl)) <| sq z182 (oAsO rfl rfl rfl rfl rfl) <| nl) ?_
        refine Unw.seq ?_
        refine Go.seq ?_
        refine Go.r0 c182 rfl rfl (sq z182 (oAsI rfl rfl) <| nl) ?_
        refine Unw.seq ?_
        refine Go.block ?_
        obtain ⟨o, hl, h⟩ := bs h
        refine Go.lp c182 rfl _ (fun (s : (Int × (List S_Coat))) => match s with | (k_6_l10, out_o3_l10) => mk [(3, .v false [.own 3 0 0]), (5, iv x23.1), (6, iv k_6_l10)] [(0, some ⟨0, 0, true, true, false, true, [⟨.imm, 0, 1, .row 1 (List.map (eK .u8) x23.2.code)⟩, ⟨.imm, 0, 0, .sc (.int .i64 x23.2.at_)⟩, ⟨.imm, 0, 0, .sc (.int .u64 x23.2.seed)⟩]⟩), (3, some ⟨0, 0, false, false, false, false, [⟨.sh, 0, 0, .row 4 (List.map e_S_Coat out_o3_l10)⟩]⟩)]) (fun (out_o3_e2_10 : (List S_Coat)) (p : Ex × St) => p.1 = .exit 2 ∧ p.2.norm ([3], [0, 3]) = mk [(3, .v false [.own 3 0 0])] [(0, some ⟨0, 0, true, true, false, true, [⟨.imm, 0, 1, .row 1 (List.map (eK .u8) x23.2.code)⟩, ⟨.imm, 0, 0, .sc (.int .i64 x23.2.at_)⟩, ⟨.imm, 0, 0, .sc (.int .u64 x23.2.seed)⟩]⟩), (3, some ⟨0, 0, false, false, false, false, [⟨.sh, 0, 0, .row 4 (List.map e_S_Coat out_o3_e2_10)⟩]⟩)]) hl (by kernel_rfl) ?_ ?_ ?_
        · intro o p hp e
          exact nomatch (hp.1.symm.trans e)
        · rintro ⟨k_6_l10, out_o3_l10⟩ o h
          unfold spec_l22DrawList_l10 at h
          dsimp only at h
          refine Go.seq ?_
          refine Go.seq ?_
          refine Go.r0 c182 rfl rfl (sq z182 (oMv rfl rfl) <| sq z182 (oMv rfl rfl) <| sq z182 (oBi rfl rfl rfl rfl) <| nl) ?_
          refine Unw.seq ?_
          by_cases hc10 : k_6_l10 < x23.1
          · rw [if_pos hc10] at h
            refine Go.condT rfl (iDec.2 hc10) ?_
            refine Go.skip ?_
            refine Unw.seq ?_
            refine Go.seq ?_
            refine Go.block ?_
            obtain ⟨x33, hx33, h⟩ := bs h
            refine Go.r0 c182 rfl rfl (sq z182 (oMv rfl rfl) <| sq z182 (oBu (cs := [.im 0 _, .im 0 _, .im 0 _, .im 0 _]) rfl bF128 rfl) <| sq z182 (oBS (es := List.map e_S_Coat ([(⟨(⟨#[111, 105, 108]⟩ : ByteArray), 1, 2, 99⟩ : S_Coat)] : List S_Coat)) rfl sF24 rfl (ptC rfl (fxI (fxI (fxI (fxI fx0)))) rfl pt0) (flat0 rfl fun _ => rfl)) <| sq z182 (oApO (en := e_S_Coat) (M := ([(⟨(⟨#[111, 105, 108]⟩ : ByteArray), 1, 2, 99⟩ : S_Coat)] : List S_Coat)) rfl hx33 rfl sF24 rfl rfl uF24 (.inl ⟨_, rfl⟩) rfl rfl rfl rfl (el_own rfl rfl) (flat0 rfl fun _ => rfl)) <| sq z182 (oAsO rfl rfl rfl rfl rfl) <| nl) ?_
            refine Unw.blk ?_
            refine Unw.seq ?_
            refine Go.r0 c182 rfl rfl (sq z182 (oMv rfl rfl) <| sq z182 (oBi rfl rfl rfl rfl) <| sq z182 (oAsI rfl rfl) <| nl) ?_
            refine Unw.nil ?_
            cases h
            exact ⟨rfl, (by kernel_rfl)⟩
          · rw [if_neg hc10] at h
            refine Go.condF rfl (byF iDec hc10) ?_
            refine Go.exit ?_
            refine Unw.seqx ?_
            refine Unw.nil ?_
            cases h
            exact ⟨rfl, (by kernel_rfl)⟩
        · rintro ⟨e, st⟩ hp
          obtain ⟨out_o3_e2_10, rfl⟩ : ∃ y, y = o := ⟨o, rfl⟩
          obtain ⟨he, hst⟩ := hp
          obtain rfl : e = .exit 2 := he
          refine Unw.blkx ?_
          exact K6 _ ⟨x23.2.code, x23.2.at_, x23.2.seed, out_o3_e2_10, h, hst⟩
      · rw [if_neg hc7] at h
        refine Go.condF rfl (byF Iff.rfl hc7) ?_
        refine Go.skip ?_
        exact K6 _ ⟨x20.2.code, x20.2.at_, x20.2.seed, out_o3_e0_3, h, (by kernel_rfl)⟩
theorem L_spec_l22DrawTime {s_0 : S_l00Src} {r : (Int × S_l00Src)} (h : spec_l22DrawTime s_0 = some r) : FL Try.prog cfg 97 [.ptr true [(.imm, .row 1 (List.map (eK .u8) s_0.code)), (.imm, .sc (.int .i64 s_0.at_)), (.imm, .sc (.int .u64 s_0.seed))]] = some ([(false, [.im 0 (.sc (.int .i64 r.1))])], [.ptr true [(.imm, .row 1 (List.map (eK .u8) r.2.code)), (.imm, .sc (.int .i64 r.2.at_)), (.imm, .sc (.int .u64 r.2.seed))]]) := by
  unfold spec_l22DrawTime at h
  refine FL_goS (A := [(0, .v false [.mp 0 0 0])]) (B := [(0, some ⟨0, 0, true, true, false, true, [⟨.imm, 0, 1, .row 1 (List.map (eK .u8) s_0.code)⟩, ⟨.imm, 0, 0, .sc (.int .i64 s_0.at_)⟩, ⟨.imm, 0, 0, .sc (.int .u64 s_0.seed)⟩]⟩)]) (nt := 10) rfl rfl Try.func97 rfl rfl rfl rfl ?_
  refine Go.seq ?_
  refine Go.r0 c97 rfl rfl (sq z97 (oAsI rfl rfl) <| nl) ?_
  refine Unw.seq ?_
  refine Go.seq ?_
  refine Go.seq ?_
  obtain ⟨x4, hx4, h⟩ := bs h
  refine Go.r0 c97 rfl rfl (sq z97 (oMv rfl rfl) <| sq z97 (oCa (xs := [.v false [.mp 0 0 0], .v false [.im 0 _]]) (vs := [(false, [.im 0 _])]) (v := .v false [.im 0 _]) (L_spec_l00Src_one hx4) (.inl rfl) rfl kF183_121_2 rfl (ppP rfl rfl rfl (ppC rfl pp0)) rfl rfl (pbP rfl rfl pb0) rfl rfl rfl) <| nl) ?_
  refine Unw.seq ?_
  by_cases hc1 : x4.1 = true
  · rw [if_pos hc1] at h
    refine Go.condT rfl (Iff.rfl.2 hc1) ?_
    refine Go.seq ?_
    obtain ⟨x7, hx7, h⟩ := bs h
    refine Go.r1 c97 rfl rfl (st1 := mk [(0, .v false [.mp 0 0 0])] [(0, some ⟨0, 0, true, true, false, true, [⟨.imm, 0, 1, .row 1 (List.map (eK .u8) x4.2.code)⟩, ⟨.imm, 0, 0, .sc (.int .i64 x4.2.at_)⟩, ⟨.imm, 0, 0, .sc (.int .u64 x4.2.seed)⟩]⟩)]) (by kernel_rfl) (sq z97 (oMv rfl rfl) <| sq z97 (oBS (es := List.map eI ([(-1), 0, 100000, 100001] : List Int)) rfl sF27 rfl (ptC rfl (fxI fx0) rfl (ptC rfl (fxI fx0) rfl (ptC rfl (fxI fx0) rfl (ptC rfl (fxI fx0) rfl pt0)))) (flat0 rfl fun _ => rfl)) <| sq z97 (oCa (xs := [.v false [.mp 0 0 0], .v false [.own 6 0 0]]) (vs := [(false, [.im 0 _])]) (v := .v false [.im 0 _]) (L_spec_l00Src_among hx7) (.inl rfl) rfl kF99_121_27 rfl (ppP rfl rfl rfl (ppC rfl pp0)) rfl rfl (pbP rfl rfl pb0) rfl rfl rfl) <| sq z97 (oAsI rfl rfl) <| nl) ?_
    refine Unw.seq ?_
    refine Go.ret (Unw.ret ?_)
    cases h
    exact Fin_ret (fin_of rfl rF97 rfl (by kernel_rfl))
  · rw [if_neg hc1] at h
    refine Go.condF rfl (byF Iff.rfl hc1) ?_
    refine Go.skip ?_
    refine Unw.seq ?_
    refine Go.seq ?_
    obtain ⟨x9, hx9, h⟩ := bs h
    refine Go.r1 c97 rfl rfl (st1 := mk [(0, .v false [.mp 0 0 0])] [(0, some ⟨0, 0, true, true, false, true, [⟨.imm, 0, 1, .row 1 (List.map (eK .u8) x4.2.code)⟩, ⟨.imm, 0, 0, .sc (.int .i64 x4.2.at_)⟩, ⟨.imm, 0, 0, .sc (.int .u64 x4.2.seed)⟩]⟩)]) (by kernel_rfl) (sq z97 (oMv rfl rfl) <| sq z97 (oCa (xs := [.v false [.mp 0 0 0], .v false [.im 0 _]]) (vs := [(false, [.im 0 _])]) (v := .v false [.im 0 _]) (L_spec_l00Src_pick hx9) (.inl rfl) rfl kF184_121_2 rfl (ppP rfl rfl rfl (ppC rfl pp0)) rfl rfl (pbP rfl rfl pb0) rfl rfl rfl) <| sq z97 (oAsI rfl rfl) <| nl) ?_
    refine Unw.seq ?_
    refine Go.ret (Unw.ret ?_)
    cases h
    exact Fin_ret (fin_of rfl rF97 rfl (by kernel_rfl))
theorem L_spec_l22DrawHours {s_0 : S_l00Src} {r : (Int × Int × S_l00Src)} (h : spec_l22DrawHours s_0 = some r) : FL Try.prog cfg 98 [.ptr true [(.imm, .row 1 (List.map (eK .u8) s_0.code)), (.imm, .sc (.int .i64 s_0.at_)), (.imm, .sc (.int .u64 s_0.seed))]] = some ([(false, [.im 0 (.sc (.int .i64 r.1))]), (false, [.im 0 (.sc (.int .i64 r.2.1))])], [.ptr true [(.imm, .row 1 (List.map (eK .u8) r.2.2.code)), (.imm, .sc (.int .i64 r.2.2.at_)), (.imm, .sc (.int .u64 r.2.2.seed))]]) := by
  unfold spec_l22DrawHours at h
  refine FL_goS (A := [(0, .v false [.mp 0 0 0])]) (B := [(0, some ⟨0, 0, true, true, false, true, [⟨.imm, 0, 1, .row 1 (List.map (eK .u8) s_0.code)⟩, ⟨.imm, 0, 0, .sc (.int .i64 s_0.at_)⟩, ⟨.imm, 0, 0, .sc (.int .u64 s_0.seed)⟩]⟩)]) (nt := 24) rfl rfl Try.func98 rfl rfl rfl rfl ?_
  refine Go.seq ?_
  refine Go.r0 c98 rfl rfl (sq z98 (oAsI rfl rfl) <| sq z98 (oAsI rfl rfl) <| nl) ?_
  refine Unw.seq ?_
  refine Go.seq ?_
  refine Go.seq ?_
  obtain ⟨x7, hx7, h⟩ := bs h
  refine Go.r0 c98 rfl rfl (sq z98 (oMv rfl rfl) <| sq z98 (oCa (xs := [.v false [.mp 0 0 0], .v false [.im 0 _]]) (vs := [(false, [.im 0 _])]) (v := .v false [.im 0 _]) (L_spec_l00Src_one hx7) (.inl rfl) rfl kF183_121_2 rfl (ppP rfl rfl rfl (ppC rfl pp0)) rfl rfl (pbP rfl rfl pb0) rfl rfl rfl) <| nl) ?_
  refine Unw.seq ?_
  by_cases hc1 : x7.1 = true
  · rw [if_pos hc1] at h
    refine Go.condT rfl (Iff.rfl.2 hc1) ?_
    refine Go.seq ?_
    obtain ⟨x10, hx10, h⟩ := bs h
    refine Go.r1 c98 rfl rfl (st1 := mk [(0, .v false [.mp 0 0 0])] [(0, some ⟨0, 0, true, true, false, true, [⟨.imm, 0, 1, .row 1 (List.map (eK .u8) x7.2.code)⟩, ⟨.imm, 0, 0, .sc (.int .i64 x7.2.at_)⟩, ⟨.imm, 0, 0, .sc (.int .u64 x7.2.seed)⟩]⟩)]) (by kernel_rfl) (sq z98 (oMv rfl rfl) <| sq z98 (oBS (es := List.map eI ([(-1), 0, 40, 95, 96] : List Int)) rfl sF27 rfl (ptC rfl (fxI fx0) rfl (ptC rfl (fxI fx0) rfl (ptC rfl (fxI fx0) rfl (ptC rfl (fxI fx0) rfl (ptC rfl (fxI fx0) rfl pt0))))) (flat0 rfl fun _ => rfl)) <| sq z98 (oCa (xs := [.v false [.mp 0 0 0], .v false [.own 9 0 0]]) (vs := [(false, [.im 0 _])]) (v := .v false [.im 0 _]) (L_spec_l00Src_among hx10) (.inl rfl) rfl kF99_121_27 rfl (ppP rfl rfl rfl (ppC rfl pp0)) rfl rfl (pbP rfl rfl pb0) rfl rfl rfl) <| sq z98 (oAsI rfl rfl) <| nl) ?_
    refine Unw.seq ?_
    refine Go.seq ?_
    obtain ⟨x14, hx14, h⟩ := bs h
    refine Go.r1 c98 rfl rfl (st1 := mk [(0, .v false [.mp 0 0 0]), (4, iv x10.1)] [(0, some ⟨0, 0, true, true, false, true, [⟨.imm, 0, 1, .row 1 (List.map (eK .u8) x10.2.code)⟩, ⟨.imm, 0, 0, .sc (.int .i64 x10.2.at_)⟩, ⟨.imm, 0, 0, .sc (.int .u64 x10.2.seed)⟩]⟩)]) (by kernel_rfl) (sq z98 (oMv rfl rfl) <| sq z98 (oMv rfl rfl) <| sq z98 (oBS (es := List.map eI ([40, 96, 97, 0] : List Int)) rfl sF27 rfl (ptC rfl (fxI fx0) rfl (ptC rfl (fxI fx0) rfl (ptC rfl (fxI fx0) rfl (ptC rfl (fxI fx0) rfl pt0)))) (flat0 rfl fun _ => rfl)) <| sq z98 (oCa (xs := [.v false [.mp 0 0 0], .v false [.own 13 0 0]]) (vs := [(false, [.im 0 _])]) (v := .v false [.im 0 _]) (L_spec_l00Src_among hx14) (.inl rfl) rfl kF99_121_27 rfl (ppP rfl rfl rfl (ppC rfl pp0)) rfl rfl (pbP rfl rfl pb0) rfl rfl rfl) <| sq z98 (oAsI rfl rfl) <| sq z98 (oAsI rfl rfl) <| nl) ?_
    refine Unw.seq ?_
    refine Go.ret (Unw.ret ?_)
    cases h
    exact Fin_ret (fin_of rfl rF98 rfl (by kernel_rfl))
  · rw [if_neg hc1] at h
    refine Go.condF rfl (byF Iff.rfl hc1) ?_
    refine Go.skip ?_
    refine Unw.seq ?_
    refine Go.seq ?_
    obtain ⟨x16, hx16, h⟩ := bs h
    refine Go.r1 c98 rfl rfl (st1 := mk [(0, .v false [.mp 0 0 0])] [(0, some ⟨0, 0, true, true, false, true, [⟨.imm, 0, 1, .row 1 (List.map (eK .u8) x7.2.code)⟩, ⟨.imm, 0, 0, .sc (.int .i64 x7.2.at_)⟩, ⟨.imm, 0, 0, .sc (.int .u64 x7.2.seed)⟩]⟩)]) (by kernel_rfl) (sq z98 (oMv rfl rfl) <| sq z98 (oCa (xs := [.v false [.mp 0 0 0], .v false [.im 0 _]]) (vs := [(false, [.im 0 _])]) (v := .v false [.im 0 _]) (L_spec_l00Src_pick hx16) (.inl rfl) rfl kF184_121_2 rfl (ppP rfl rfl rfl (ppC rfl pp0)) rfl rfl (pbP rfl rfl pb0) rfl rfl rfl) <| sq z98 (oBi rfl rfl rfl rfl) <| sq z98 (oAsI rfl rfl) <| nl) ?_
    refine Unw.seq ?_
    refine Go.seq ?_
    obtain ⟨x22, hx22, h⟩ := bs h
    refine Go.r1 c98 rfl rfl (st1 := mk [(0, .v false [.mp 0 0 0]), (5, iv (w64 (28 + x16.1)))] [(0, some ⟨0, 0, true, true, false, true, [⟨.imm, 0, 1, .row 1 (List.map (eK .u8) x16.2.code)⟩, ⟨.imm, 0, 0, .sc (.int .i64 x16.2.at_)⟩, ⟨.imm, 0, 0, .sc (.int .u64 x16.2.seed)⟩]⟩)]) (by kernel_rfl) (sq z98 (oMv rfl rfl) <| sq z98 (oMv rfl rfl) <| sq z98 (oBi rfl rfl rfl rfl) <| sq z98 (oMv rfl rfl) <| sq z98 (oCa (xs := [.v false [.mp 0 0 0], .v false [.im 0 _]]) (vs := [(false, [.im 0 _])]) (v := .v false [.im 0 _]) (L_spec_l00Src_pick hx22) (.inl rfl) rfl kF184_121_2 rfl (ppP rfl rfl rfl (ppC rfl pp0)) rfl rfl (pbP rfl rfl pb0) rfl rfl rfl) <| sq z98 (oBi rfl rfl rfl rfl) <| sq z98 (oAsI rfl rfl) <| sq z98 (oAsI rfl rfl) <| nl) ?_
    refine Unw.seq ?_
    refine Go.ret (Unw.ret ?_)
    cases h
    exact Fin_ret (fin_of rfl rF98 rfl (by kernel_rfl))
theorem L_spec_l22Draw {s_0 : S_l00Src} {r : ((List S_Coat) × Int × Int × Int × S_l00Src)} (h : spec_l22Draw s_0 = some r) : FL Try.prog cfg 86 [.ptr true [(.imm, .row 1 (List.map (eK .u8) s_0.code)), (.imm, .sc (.int .i64 s_0.at_)), (.imm, .sc (.int .u64 s_0.seed))]] = some ([(false, [.ow 0 4 (List.map e_S_Coat r.1)]), (false, [.im 0 (.sc (.int .i64 r.2.1))]), (false, [.im 0 (.sc (.int .i64 r.2.2.1))]), (false, [.im 0 (.sc (.int .i64 r.2.2.2.1))])], [.ptr true [(.imm, .row 1 (List.map (eK .u8) r.2.2.2.2.code)), (.imm, .sc (.int .i64 r.2.2.2.2.at_)), (.imm, .sc (.int .u64 r.2.2.2.2.seed))]]) := by
  unfold spec_l22Draw at h
  refine FL_goS (A := [(0, .v false [.mp 0 0 0])]) (B := [(0, some ⟨0, 0, true, true, false, true, [⟨.imm, 0, 1, .row 1 (List.map (eK .u8) s_0.code)⟩, ⟨.imm, 0, 0, .sc (.int .i64 s_0.at_)⟩, ⟨.imm, 0, 0, .sc (.int .u64 s_0.seed)⟩]⟩)]) (nt := 23) rfl rfl Try.func86 rfl rfl rfl rfl ?_
  refine Go.seq ?_
  refine Go.r0 c86 rfl rfl (sq z86 (oAsN rfl rfl eF24) <| sq z86 (oAsI rfl rfl) <| sq z86 (oAsI rfl rfl) <| sq z86 (oAsI rfl rfl) <| nl) ?_
  refine Unw.seq ?_
  refine Go.seq ?_
  obtain ⟨x11, hx11, h⟩ := bs h
  refine Go.r0 c86 rfl rfl (sq z86 (oMv rfl rfl) <| sq z86 (oCr (xs := [.v false [.mp 0 0 0]]) (vs := [(false, [.own 11 0 0])]) (v := .v false [.own 11 0 0]) (c := ⟨.sh, 0, _⟩) (cs := []) (L_spec_l22DrawList hx11) (.inl rfl) rfl kF182_121 rfl (ppP rfl rfl rfl pp0) rfl rfl (pbP rfl rfl pb0) rfl rfl rfl) <| sq z86 (oAsO rfl rfl rfl rfl rfl) <| nl) ?_
  refine Unw.seq ?_
  refine Go.seq ?_
  obtain ⟨x13, hx13, h⟩ := bs h
  refine Go.r1 c86 rfl rfl (st1 := mk [(0, .v false [.mp 0 0 0]), (6, .v false [.own 6 0 0])] [(0, some ⟨0, 0, true, true, false, true, [⟨.imm, 0, 1, .row 1 (List.map (eK .u8) x11.2.code)⟩, ⟨.imm, 0, 0, .sc (.int .i64 x11.2.at_)⟩, ⟨.imm, 0, 0, .sc (.int .u64 x11.2.seed)⟩]⟩), (6, some ⟨0, 0, false, false, false, false, [⟨.sh, 0, 0, .row 4 (List.map e_S_Coat x11.1)⟩]⟩)]) (by kernel_rfl) (sq z86 (oMv rfl rfl) <| sq z86 (oCa (xs := [.v false [.mp 0 0 0]]) (vs := [(false, [.im 0 _])]) (v := .v false [.im 0 _]) (L_spec_l22DrawTime hx13) (.inl rfl) rfl kF97_121 rfl (ppP rfl rfl rfl pp0) rfl rfl (pbP rfl rfl pb0) rfl rfl rfl) <| sq z86 (oAsI rfl rfl) <| nl) ?_
  refine Unw.seq ?_
  refine Go.seq ?_
  obtain ⟨x16, hx16, h⟩ := bs h
  refine Go.r1 c86 rfl rfl (st1 := mk [(0, .v false [.mp 0 0 0]), (6, .v false [.own 6 0 0]), (7, iv x13.1)] [(0, some ⟨0, 0, true, true, false, true, [⟨.imm, 0, 1, .row 1 (List.map (eK .u8) x13.2.code)⟩, ⟨.imm, 0, 0, .sc (.int .i64 x13.2.at_)⟩, ⟨.imm, 0, 0, .sc (.int .u64 x13.2.seed)⟩]⟩), (6, some ⟨0, 0, false, false, false, false, [⟨.sh, 0, 0, .row 4 (List.map e_S_Coat x11.1)⟩]⟩)]) (by kernel_rfl) (sq z86 (oMv rfl rfl) <| sq z86 (oCa (xs := [.v false [.mp 0 0 0]]) (vs := [(false, [.im 0 _]), (false, [.im 0 _])]) (v := .tup [(false, [.im 0 _]), (false, [.im 0 _])]) (L_spec_l22DrawHours hx16) (.inl rfl) rfl kF98_121 rfl (ppP rfl rfl rfl pp0) rfl rfl (pbP rfl rfl pb0) rfl rfl rfl) <| sq z86 (oMvT rfl rfl) <| sq z86 (oEx rfl rfl rfl) <| sq z86 (oEx rfl rfl rfl) <| sq z86 (oAsI rfl rfl) <| sq z86 (oAsI rfl rfl) <| nl) ?_
  refine Unw.seq ?_
  refine Go.seq ?_
  refine Go.r1 c86 rfl rfl (st1 := mk [(6, .v false [.own 6 0 0]), (7, iv x13.1), (8, iv x16.1), (9, iv x16.2.1)] [(0, some ⟨0, 0, true, true, false, true, [⟨.imm, 0, 1, .row 1 (List.map (eK .u8) x16.2.2.code)⟩, ⟨.imm, 0, 0, .sc (.int .i64 x16.2.2.at_)⟩, ⟨.imm, 0, 0, .sc (.int .u64 x16.2.2.seed)⟩]⟩), (6, some ⟨0, 0, false, false, false, false, [⟨.sh, 0, 0, .row 4 (List.map e_S_Coat x11.1)⟩]⟩)]) (by kernel_rfl) (sq z86 (oMv rfl rfl) <| sq z86 (oMv rfl rfl) <| sq z86 (oMv rfl rfl) <| sq z86 (oMv rfl rfl) <| sq z86 (oAsO rfl rfl rfl rfl rfl) <| sq z86 (oAsI rfl rfl) <| sq z86 (oAsI rfl rfl) <| sq z86 (oAsI rfl rfl) <| nl) ?_
  refine Unw.seq ?_
  refine Go.ret (Unw.ret ?_)
  cases h
  exact Fin_ret (fin_of rfl rF86 rfl (by kernel_rfl))
theorem L_spec_l08DrawBudget {s_0 : S_l00Src} {r : (Int × S_l00Src)} (h : spec_l08DrawBudget s_0 = some r) : FL Try.prog cfg 87 [.ptr true [(.imm, .row 1 (List.map (eK .u8) s_0.code)), (.imm, .sc (.int .i64 s_0.at_)), (.imm, .sc (.int .u64 s_0.seed))]] = some ([(false, [.im 0 (.sc (.int .i64 r.1))])], [.ptr true [(.imm, .row 1 (List.map (eK .u8) r.2.code)), (.imm, .sc (.int .i64 r.2.at_)), (.imm, .sc (.int .u64 r.2.seed))]]) := by
  unfold spec_l08DrawBudget at h
  refine FL_goS (A := [(0, .v false [.mp 0 0 0])]) (B := [(0, some ⟨0, 0, true, true, false, true, [⟨.imm, 0, 1, .row 1 (List.map (eK .u8) s_0.code)⟩, ⟨.imm, 0, 0, .sc (.int .i64 s_0.at_)⟩, ⟨.imm, 0, 0, .sc (.int .u64 s_0.seed)⟩]⟩)]) (nt := 11) rfl rfl Try.func87 rfl rfl rfl rfl ?_
  refine Go.seq ?_
  refine Go.r0 c87 rfl rfl (sq z87 (oAsI rfl rfl) <| nl) ?_
  refine Unw.seq ?_
  refine Go.seq ?_
  refine Go.seq ?_
  obtain ⟨x4, hx4, h⟩ := bs h
  refine Go.r0 c87 rfl rfl (sq z87 (oMv rfl rfl) <| sq z87 (oCa (xs := [.v false [.mp 0 0 0], .v false [.im 0 _]]) (vs := [(false, [.im 0 _])]) (v := .v false [.im 0 _]) (L_spec_l00Src_one hx4) (.inl rfl) rfl kF183_121_2 rfl (ppP rfl rfl rfl (ppC rfl pp0)) rfl rfl (pbP rfl rfl pb0) rfl rfl rfl) <| nl) ?_
  refine Unw.seq ?_
  by_cases hc1 : x4.1 = true
  · rw [if_pos hc1] at h
    refine Go.condT rfl (Iff.rfl.2 hc1) ?_
    refine Go.seq ?_
    obtain ⟨x7, hx7, h⟩ := bs h
    refine Go.r1 c87 rfl rfl (st1 := mk [(0, .v false [.mp 0 0 0])] [(0, some ⟨0, 0, true, true, false, true, [⟨.imm, 0, 1, .row 1 (List.map (eK .u8) x4.2.code)⟩, ⟨.imm, 0, 0, .sc (.int .i64 x4.2.at_)⟩, ⟨.imm, 0, 0, .sc (.int .u64 x4.2.seed)⟩]⟩)]) (by kernel_rfl) (sq z87 (oMv rfl rfl) <| sq z87 (oBS (es := List.map eI ([0, 1, 5, 20000, 20001] : List Int)) rfl sF27 rfl (ptC rfl (fxI fx0) rfl (ptC rfl (fxI fx0) rfl (ptC rfl (fxI fx0) rfl (ptC rfl (fxI fx0) rfl (ptC rfl (fxI fx0) rfl pt0))))) (flat0 rfl fun _ => rfl)) <| sq z87 (oCa (xs := [.v false [.mp 0 0 0], .v false [.own 6 0 0]]) (vs := [(false, [.im 0 _])]) (v := .v false [.im 0 _]) (L_spec_l00Src_among hx7) (.inl rfl) rfl kF99_121_27 rfl (ppP rfl rfl rfl (ppC rfl pp0)) rfl rfl (pbP rfl rfl pb0) rfl rfl rfl) <| sq z87 (oAsI rfl rfl) <| nl) ?_
    refine Unw.seq ?_
    refine Go.ret (Unw.ret ?_)
    cases h
    exact Fin_ret (fin_of rfl rF87 rfl (by kernel_rfl))
  · rw [if_neg hc1] at h
    refine Go.condF rfl (byF Iff.rfl hc1) ?_
    refine Go.skip ?_
    refine Unw.seq ?_
    refine Go.seq ?_
    obtain ⟨x9, hx9, h⟩ := bs h
    refine Go.r1 c87 rfl rfl (st1 := mk [(0, .v false [.mp 0 0 0])] [(0, some ⟨0, 0, true, true, false, true, [⟨.imm, 0, 1, .row 1 (List.map (eK .u8) x4.2.code)⟩, ⟨.imm, 0, 0, .sc (.int .i64 x4.2.at_)⟩, ⟨.imm, 0, 0, .sc (.int .u64 x4.2.seed)⟩]⟩)]) (by kernel_rfl) (sq z87 (oMv rfl rfl) <| sq z87 (oCa (xs := [.v false [.mp 0 0 0], .v false [.im 0 _]]) (vs := [(false, [.im 0 _])]) (v := .v false [.im 0 _]) (L_spec_l00Src_pick hx9) (.inl rfl) rfl kF184_121_2 rfl (ppP rfl rfl rfl (ppC rfl pp0)) rfl rfl (pbP rfl rfl pb0) rfl rfl rfl) <| sq z87 (oBi rfl rfl rfl rfl) <| sq z87 (oAsI rfl rfl) <| nl) ?_
    refine Unw.seq ?_
    refine Go.ret (Unw.ret ?_)
    cases h
    exact Fin_ret (fin_of rfl rF87 rfl (by kernel_rfl))
theorem L_spec_DrawFirstCoatPlan {code_0 : (List Int)} {r : ((List S_Coat) × Int × Int × Int × Int)} (h : spec_DrawFirstCoatPlan code_0 = some r) : FL Try.prog cfg 15 [.im 2 false [.row 1 (List.map (eK .u8) code_0)]] = some ([(false, [.ow 0 4 (List.map e_S_Coat r.1)]), (false, [.im 0 (.sc (.int .i64 r.2.1))]), (false, [.im 0 (.sc (.int .i64 r.2.2.1))]), (false, [.im 0 (.sc (.int .i64 r.2.2.2.1))]), (false, [.im 0 (.sc (.int .i64 r.2.2.2.2))])], []) := by
  unfold spec_DrawFirstCoatPlan at h
  refine FL_goS (A := [(0, .v false [.im 2 (.row 1 (List.map (eK .u8) code_0))])]) (B := [(0, none)]) (nt := 27) rfl rfl Try.func15 rfl rfl rfl rfl ?_
  refine Go.seq ?_
  refine Go.r0 c15 rfl rfl (sq z15 (oAsN rfl rfl eF24) <| sq z15 (oAsI rfl rfl) <| sq z15 (oAsI rfl rfl) <| sq z15 (oAsI rfl rfl) <| sq z15 (oAsI rfl rfl) <| nl) ?_
  refine Unw.seq ?_
  refine Go.seq ?_
  obtain ⟨x13, hx13, h⟩ := bs h
  refine Go.r0 c15 rfl rfl (sq z15 (oMv rfl rfl) <| sq z15 (oCp (xs := [.v false [.im 2 _]]) (L_spec_l00From hx13) (.inl rfl) rfl kF85_22 rfl (ppC rfl pp0) rfl rfl pb0 rfl) <| sq z15 (oAsP rfl rfl) <| nl) ?_
  refine Unw.seq ?_
  refine Go.seq ?_
  obtain ⟨x16, hx16, h⟩ := bs h
  refine Go.r0 c15 rfl rfl (sq z15 (oMv rfl rfl) <| sq z15 (oCr (xs := [.v false [.mp 13 0 0]]) (vs := [(false, [.own 16 0 0]), (false, [.im 0 _]), (false, [.im 0 _]), (false, [.im 0 _])]) (v := .tup [(false, [.own 16 0 0]), (false, [.im 0 _]), (false, [.im 0 _]), (false, [.im 0 _])]) (c := ⟨.sh, 0, _⟩) (cs := []) (L_spec_l22Draw hx16) (.inl rfl) rfl kF86_121 rfl (ppP rfl rfl rfl pp0) rfl rfl (pbP rfl rfl pb0) rfl rfl rfl) <| sq z15 (oMvT rfl rfl) <| sq z15 (oEx rfl rfl rfl) <| sq z15 (oEx rfl rfl rfl) <| sq z15 (oEx rfl rfl rfl) <| sq z15 (oEx rfl rfl rfl) <| sq z15 (oAsO rfl rfl rfl rfl rfl) <| sq z15 (oAsI rfl rfl) <| sq z15 (oAsI rfl rfl) <| sq z15 (oAsI rfl rfl) <| nl) ?_
  refine Unw.seq ?_
  refine Go.seq ?_
  obtain ⟨x26, hx26, h⟩ := bs h
  refine Go.r1 c15 rfl rfl (st1 := mk [(7, .v false [.mp 13 0 0]), (8, .v false [.own 8 0 0]), (9, iv x16.2.1), (10, iv x16.2.2.1), (11, iv x16.2.2.2.1)] [(8, some ⟨0, 0, false, false, false, false, [⟨.sh, 0, 0, .row 4 (List.map e_S_Coat x16.1)⟩]⟩), (13, some ⟨0, 0, false, true, false, true, [⟨.imm, 0, 2, .row 1 (List.map (eK .u8) x16.2.2.2.2.code)⟩, ⟨.imm, 0, 0, .sc (.int .i64 x16.2.2.2.2.at_)⟩, ⟨.imm, 0, 0, .sc (.int .u64 x16.2.2.2.2.seed)⟩]⟩)]) (by kernel_rfl) (sq z15 (oMv rfl rfl) <| sq z15 (oMv rfl rfl) <| sq z15 (oMv rfl rfl) <| sq z15 (oMv rfl rfl) <| sq z15 (oMv rfl rfl) <| sq z15 (oCa (xs := [.v false [.mp 13 0 0]]) (vs := [(false, [.im 0 _])]) (v := .v false [.im 0 _]) (L_spec_l08DrawBudget hx26) (.inl rfl) rfl kF87_121 rfl (ppP rfl rfl rfl pp0) rfl rfl (pbP rfl rfl pb0) rfl rfl rfl) <| sq z15 (oAsO rfl rfl rfl rfl rfl) <| sq z15 (oAsI rfl rfl) <| sq z15 (oAsI rfl rfl) <| sq z15 (oAsI rfl rfl) <| sq z15 (oAsI rfl rfl) <| nl) ?_
  refine Unw.seq ?_
  refine Go.ret (Unw.ret ?_)
  cases h
  exact Fin_ret (fin_of rfl rF15 rfl (by kernel_rfl))
theorem L_impl_IsName {s_0 : ByteArray} {r : Bool} (h : impl_IsName s_0 = some r) : FL Try.prog cfg 250 [.im 2 false [.sc (.string s_0)]] = some ([(false, [.im 0 (.sc (.bool r))])], []) := by
  unfold impl_IsName at h
  refine FL_goS (A := [(0, .v false [.im 2 (.sc (.string s_0))])]) (B := [(0, none)]) (nt := 50) rfl rfl Try.func250 rfl rfl rfl rfl ?_
  refine Go.seq ?_
  refine Go.r0 c250 rfl rfl (sq z250 (oAsI rfl rfl) <| nl) ?_
  refine Unw.seq ?_
  refine Go.seq ?_
  refine Go.seq ?_
  obtain ⟨t_21_m1, hm26, h⟩ := bs h
  refine Go.rX c250 rfl rfl rfl (mk [(0, sv s_0), (21, bv t_21_m1)] []) ?_ ?_
  · by_cases hc1 : (s_0.size : Int) < 1
    · rw [if_pos hc1] at hm26
      cases hm26
      exact ⟨_, sq z250 (oMv rfl rfl) <| sq z250 (oLnS rfl rfl uF9 rfl) <| sq z250 (oBi rfl rfl rfl rfl) <| sq z250 (oMv rfl rfl) <| sgF rfl rfl (iDec.2 hc1) rfl <| sgF rfl rfl (iDec.2 hc1) rfl <| sgF rfl rfl (iDec.2 hc1) rfl <| sq z250 (oPkT rfl rfl (iDec.2 hc1) rfl) <| sq z250 (oMv rfl rfl) <| sgF rfl rfl rfl rfl <| sgF rfl rfl rfl rfl <| sgF rfl rfl rfl rfl <| sq z250 (oPkT rfl rfl rfl rfl) <| sq z250 (oMv rfl rfl) <| sgF rfl rfl rfl rfl <| sgF rfl rfl rfl rfl <| sgF rfl rfl rfl rfl <| sq z250 (oPkT rfl rfl rfl rfl) <| nl, (by kernel_rfl)⟩
    · rw [if_neg hc1] at hm26
      by_cases hc2 : (s_0.size : Int) > 10
      · rw [if_pos hc2] at hm26
        cases hm26
        exact ⟨_, sq z250 (oMv rfl rfl) <| sq z250 (oLnS rfl rfl uF9 rfl) <| sq z250 (oBi rfl rfl rfl rfl) <| sq z250 (oMv rfl rfl) <| sgT z250 rfl rfl (byF iDec hc1) (oMv rfl rfl) <| sgT z250 rfl rfl (byF iDec hc1) (oLnS rfl rfl uF9 rfl) <| sgT z250 rfl rfl (byF iDec hc1) (oBi rfl rfl rfl rfl) <| sq z250 (oPkF rfl rfl (byF iDec hc1) rfl) <| sq z250 (oMv rfl rfl) <| sgF rfl rfl (iDec.2 hc2) rfl <| sgF rfl rfl (iDec.2 hc2) rfl <| sgF rfl rfl (iDec.2 hc2) rfl <| sq z250 (oPkT rfl rfl (iDec.2 hc2) rfl) <| sq z250 (oMv rfl rfl) <| sgF rfl rfl rfl rfl <| sgF rfl rfl rfl rfl <| sgF rfl rfl rfl rfl <| sq z250 (oPkT rfl rfl rfl rfl) <| nl, (by kernel_rfl)⟩
      · rw [if_neg hc2] at hm26
        obtain ⟨x14, hx14, hm26⟩ := bs hm26
        by_cases hc3 : x14 < 97
        · rw [if_pos hc3] at hm26
          cases hm26
          exact ⟨_, sq z250 (oMv rfl rfl) <| sq z250 (oLnS rfl rfl uF9 rfl) <| sq z250 (oBi rfl rfl rfl rfl) <| sq z250 (oMv rfl rfl) <| sgT z250 rfl rfl (byF iDec hc1) (oMv rfl rfl) <| sgT z250 rfl rfl (byF iDec hc1) (oLnS rfl rfl uF9 rfl) <| sgT z250 rfl rfl (byF iDec hc1) (oBi rfl rfl rfl rfl) <| sq z250 (oPkF rfl rfl (byF iDec hc1) rfl) <| sq z250 (oMv rfl rfl) <| sgT z250 rfl rfl (byF iDec hc2) (oMv rfl rfl) <| sgT z250 rfl rfl (byF iDec hc2) (oIx rfl hx14 uF9 rfl rfl) <| sgT z250 rfl rfl (byF iDec hc2) (oBi rfl rfl rfl rfl) <| sq z250 (oPkF rfl rfl (byF iDec hc2) rfl) <| sq z250 (oMv rfl rfl) <| sgF rfl rfl (iDec.2 hc3) rfl <| sgF rfl rfl (iDec.2 hc3) rfl <| sgF rfl rfl (iDec.2 hc3) rfl <| sq z250 (oPkT rfl rfl (iDec.2 hc3) rfl) <| nl, (by kernel_rfl)⟩
        · rw [if_neg hc3] at hm26
          obtain ⟨x19, hx19, hm26⟩ := bs hm26
          cases hm26
          exact ⟨_, sq z250 (oMv rfl rfl) <| sq z250 (oLnS rfl rfl uF9 rfl) <| sq z250 (oBi rfl rfl rfl rfl) <| sq z250 (oMv rfl rfl) <| sgT z250 rfl rfl (byF iDec hc1) (oMv rfl rfl) <| sgT z250 rfl rfl (byF iDec hc1) (oLnS rfl rfl uF9 rfl) <| sgT z250 rfl rfl (byF iDec hc1) (oBi rfl rfl rfl rfl) <| sq z250 (oPkF rfl rfl (byF iDec hc1) rfl) <| sq z250 (oMv rfl rfl) <| sgT z250 rfl rfl (byF iDec hc2) (oMv rfl rfl) <| sgT z250 rfl rfl (byF iDec hc2) (oIx rfl hx14 uF9 rfl rfl) <| sgT z250 rfl rfl (byF iDec hc2) (oBi rfl rfl rfl rfl) <| sq z250 (oPkF rfl rfl (byF iDec hc2) rfl) <| sq z250 (oMv rfl rfl) <| sgT z250 rfl rfl (byF iDec hc3) (oMv rfl rfl) <| sgT z250 rfl rfl (byF iDec hc3) (oIx rfl hx19 uF9 rfl rfl) <| sgT z250 rfl rfl (byF iDec hc3) (oBi rfl rfl rfl rfl) <| sq z250 (oPkF rfl rfl (byF iDec hc3) rfl) <| nl, (by kernel_rfl)⟩
  · refine Unw.seq ?_
    by_cases hc4 : t_21_m1 = true
    · rw [if_pos hc4] at h
      refine Go.condT rfl (Iff.rfl.2 hc4) ?_
      refine Go.seq ?_
      refine Go.r0 c250 rfl rfl (sq z250 (oAsI rfl rfl) <| nl) ?_
      refine Unw.seq ?_
      refine Go.ret (Unw.ret ?_)
      cases h
      exact Fin_ret (fin_of rfl rF250 rfl (by kernel_rfl))
    · rw [if_neg hc4] at h
      refine Go.condF rfl (byF Iff.rfl hc4) ?_
      refine Go.skip ?_
      refine Unw.seq ?_
      refine Go.seq ?_
      refine Go.seq ?_
      refine Go.r0 c250 rfl rfl (sq z250 (oAsI rfl rfl) <| nl) ?_
      refine Unw.seq ?_
      refine Go.block ?_
      obtain ⟨o, hl, h⟩ := bs h
      refine Go.lp c250 rfl _ (fun (i_3_l4 : Int) => mk [(0, sv s_0), (3, iv i_3_l4)] []) (fun (o : (Unit ⊕ Bool)) (p : Ex × St) => match o with | (.inl _) => p.1 = .exit 0 ∧ p.2.norm ([], []) = mk [] [] | (.inr r2) => p.1 = .ret ∧ fin Try.prog cfg 250 Try.f250 [.im 2 false [.sc (.string s_0)]] p.2 = some ([(false, [.im 0 (.sc (.bool r2))])], [])) hl (by kernel_rfl) ?_ ?_ ?_
      · intro o p hp e
        rcases o with u | r2 <;> exact nomatch (hp.1.symm.trans e)
      · rintro i_3_l4 o h
        unfold impl_IsName_l4 at h
        refine Go.seq ?_
        refine Go.seq ?_
        refine Go.r0 c250 rfl rfl (sq z250 (oMv rfl rfl) <| sq z250 (oMv rfl rfl) <| sq z250 (oLnS rfl rfl uF9 rfl) <| sq z250 (oBi rfl rfl rfl rfl) <| nl) ?_
        refine Unw.seq ?_
        by_cases hc19 : i_3_l4 < (s_0.size : Int)
        · rw [if_pos hc19] at h
          refine Go.condT rfl (iDec.2 hc19) ?_
          refine Go.skip ?_
          refine Unw.seq ?_
          refine Go.seq ?_
          refine Go.block ?_
          refine Go.seq ?_
          obtain ⟨x30, hx30, h⟩ := bs h
          obtain ⟨t_49_m6, hm25, h⟩ := bs h
          refine Go.rX c250 rfl rfl rfl (mk [(0, sv s_0), (3, iv i_3_l4), (49, bv t_49_m6)] []) ?_ ?_
          · by_cases hc20 : x30 < 97
            · rw [if_pos hc20] at hm25
              obtain ⟨x41, hx41, hm25⟩ := bs hm25
              by_cases hc21 : x41 < 48
              · rw [if_pos hc21] at hm25
                cases hm25
                exact ⟨_, sq z250 (oMv rfl rfl) <| sq z250 (oMv rfl rfl) <| sq z250 (oIx rfl hx30 uF9 rfl rfl) <| sq z250 (oBi rfl rfl rfl rfl) <| sq z250 (oMv rfl rfl) <| sgF rfl rfl (iDec.2 hc20) rfl <| sgF rfl rfl (iDec.2 hc20) rfl <| sgF rfl rfl (iDec.2 hc20) rfl <| sgF rfl rfl (iDec.2 hc20) rfl <| sq z250 (oPkT rfl rfl (iDec.2 hc20) rfl) <| sq z250 (oMv rfl rfl) <| sgT z250 rfl rfl rfl (oMv rfl rfl) <| sgT z250 rfl rfl rfl (oMv rfl rfl) <| sgT z250 rfl rfl rfl (oIx rfl hx41 uF9 rfl rfl) <| sgT z250 rfl rfl rfl (oBi rfl rfl rfl rfl) <| sgT z250 rfl rfl rfl (oMv rfl rfl) <| sgF rfl rfl (iDec.2 hc21) rfl <| sgF rfl rfl (iDec.2 hc21) rfl <| sgF rfl rfl (iDec.2 hc21) rfl <| sgF rfl rfl (iDec.2 hc21) rfl <| sgT z250 rfl rfl rfl (oPkT rfl rfl (iDec.2 hc21) rfl) <| sq z250 (oPkT rfl rfl rfl rfl) <| nl, (by kernel_rfl)⟩
              · rw [if_neg hc21] at hm25
                obtain ⟨x46, hx46, hm25⟩ := bs hm25
                cases hm25
                exact ⟨_, sq z250 (oMv rfl rfl) <| sq z250 (oMv rfl rfl) <| sq z250 (oIx rfl hx30 uF9 rfl rfl) <| sq z250 (oBi rfl rfl rfl rfl) <| sq z250 (oMv rfl rfl) <| sgF rfl rfl (iDec.2 hc20) rfl <| sgF rfl rfl (iDec.2 hc20) rfl <| sgF rfl rfl (iDec.2 hc20) rfl <| sgF rfl rfl (iDec.2 hc20) rfl <| sq z250 (oPkT rfl rfl (iDec.2 hc20) rfl) <| sq z250 (oMv rfl rfl) <| sgT z250 rfl rfl rfl (oMv rfl rfl) <| sgT z250 rfl rfl rfl (oMv rfl rfl) <| sgT z250 rfl rfl rfl (oIx rfl hx41 uF9 rfl rfl) <| sgT z250 rfl rfl rfl (oBi rfl rfl rfl rfl) <| sgT z250 rfl rfl rfl (oMv rfl rfl) <| sgT z250 rfl rfl (byF iDec hc21) (oMv rfl rfl) <| sgT z250 rfl rfl (byF iDec hc21) (oMv rfl rfl) <| sgT z250 rfl rfl (byF iDec hc21) (oIx rfl hx46 uF9 rfl rfl) <| sgT z250 rfl rfl (byF iDec hc21) (oBi rfl rfl rfl rfl) <| sgT z250 rfl rfl rfl (oPkF rfl rfl (byF iDec hc21) rfl) <| sq z250 (oPkT rfl rfl rfl rfl) <| nl, (by kernel_rfl)⟩
            · rw [if_neg hc20] at hm25
              obtain ⟨x35, hx35, hm25⟩ := bs hm25
              by_cases hc22 : x35 > 122
              · rw [if_pos hc22] at hm25
                obtain ⟨x41, hx41, hm25⟩ := bs hm25
                by_cases hc23 : x41 < 48
                · rw [if_pos hc23] at hm25
                  cases hm25
                  exact ⟨_, sq z250 (oMv rfl rfl) <| sq z250 (oMv rfl rfl) <| sq z250 (oIx rfl hx30 uF9 rfl rfl) <| sq z250 (oBi rfl rfl rfl rfl) <| sq z250 (oMv rfl rfl) <| sgT z250 rfl rfl (byF iDec hc20) (oMv rfl rfl) <| sgT z250 rfl rfl (byF iDec hc20) (oMv rfl rfl) <| sgT z250 rfl rfl (byF iDec hc20) (oIx rfl hx35 uF9 rfl rfl) <| sgT z250 rfl rfl (byF iDec hc20) (oBi rfl rfl rfl rfl) <| sq z250 (oPkF rfl rfl (byF iDec hc20) rfl) <| sq z250 (oMv rfl rfl) <| sgT z250 rfl rfl (iDec.2 hc22) (oMv rfl rfl) <| sgT z250 rfl rfl (iDec.2 hc22) (oMv rfl rfl) <| sgT z250 rfl rfl (iDec.2 hc22) (oIx rfl hx41 uF9 rfl rfl) <| sgT z250 rfl rfl (iDec.2 hc22) (oBi rfl rfl rfl rfl) <| sgT z250 rfl rfl (iDec.2 hc22) (oMv rfl rfl) <| sgF rfl rfl (iDec.2 hc23) rfl <| sgF rfl rfl (iDec.2 hc23) rfl <| sgF rfl rfl (iDec.2 hc23) rfl <| sgF rfl rfl (iDec.2 hc23) rfl <| sgT z250 rfl rfl (iDec.2 hc22) (oPkT rfl rfl (iDec.2 hc23) rfl) <| sq z250 (oPkT rfl rfl (iDec.2 hc22) rfl) <| nl, (by kernel_rfl)⟩
                · rw [if_neg hc23] at hm25
                  obtain ⟨x46, hx46, hm25⟩ := bs hm25
                  cases hm25
                  exact ⟨_, sq z250 (oMv rfl rfl) <| sq z250 (oMv rfl rfl) <| sq z250 (oIx rfl hx30 uF9 rfl rfl) <| sq z250 (oBi rfl rfl rfl rfl) <| sq z250 (oMv rfl rfl) <| sgT z250 rfl rfl (byF iDec hc20) (oMv rfl rfl) <| sgT z250 rfl rfl (byF iDec hc20) (oMv rfl rfl) <| sgT z250 rfl rfl (byF iDec hc20) (oIx rfl hx35 uF9 rfl rfl) <| sgT z250 rfl rfl (byF iDec hc20) (oBi rfl rfl rfl rfl) <| sq z250 (oPkF rfl rfl (byF iDec hc20) rfl) <| sq z250 (oMv rfl rfl) <| sgT z250 rfl rfl (iDec.2 hc22) (oMv rfl rfl) <| sgT z250 rfl rfl (iDec.2 hc22) (oMv rfl rfl) <| sgT z250 rfl rfl (iDec.2 hc22) (oIx rfl hx41 uF9 rfl rfl) <| sgT z250 rfl rfl (iDec.2 hc22) (oBi rfl rfl rfl rfl) <| sgT z250 rfl rfl (iDec.2 hc22) (oMv rfl rfl) <| sgT z250 rfl rfl (byF iDec hc23) (oMv rfl rfl) <| sgT z250 rfl rfl (byF iDec hc23) (oMv rfl rfl) <| sgT z250 rfl rfl (byF iDec hc23) (oIx rfl hx46 uF9 rfl rfl) <| sgT z250 rfl rfl (byF iDec hc23) (oBi rfl rfl rfl rfl) <| sgT z250 rfl rfl (iDec.2 hc22) (oPkF rfl rfl (byF iDec hc23) rfl) <| sq z250 (oPkT rfl rfl (iDec.2 hc22) rfl) <| nl, (by kernel_rfl)⟩
              · rw [if_neg hc22] at hm25
                cases hm25
                exact ⟨_, sq z250 (oMv rfl rfl) <| sq z250 (oMv rfl rfl) <| sq z250 (oIx rfl hx30 uF9 rfl rfl) <| sq z250 (oBi rfl rfl rfl rfl) <| sq z250 (oMv rfl rfl) <| sgT z250 rfl rfl (byF iDec hc20) (oMv rfl rfl) <| sgT z250 rfl rfl (byF iDec hc20) (oMv rfl rfl) <| sgT z250 rfl rfl (byF iDec hc20) (oIx rfl hx35 uF9 rfl rfl) <| sgT z250 rfl rfl (byF iDec hc20) (oBi rfl rfl rfl rfl) <| sq z250 (oPkF rfl rfl (byF iDec hc20) rfl) <| sq z250 (oMv rfl rfl) <| sgF rfl rfl (byF iDec hc22) rfl <| sgF rfl rfl (byF iDec hc22) rfl <| sgF rfl rfl (byF iDec hc22) rfl <| sgF rfl rfl (byF iDec hc22) rfl <| sgF rfl rfl (byF iDec hc22) rfl <| sgU rfl rfl rfl <| sgU rfl rfl rfl <| sgU rfl rfl rfl <| sgU rfl rfl rfl <| sgF rfl rfl (byF iDec hc22) rfl <| sq z250 (oPkF rfl rfl (byF iDec hc22) rfl) <| nl, (by kernel_rfl)⟩
          · refine Unw.seq ?_
            by_cases hc24 : t_49_m6 = true
            · rw [if_pos hc24] at h
              refine Go.condT rfl (Iff.rfl.2 hc24) ?_
              refine Go.seq ?_
              refine Go.r0 c250 rfl rfl (sq z250 (oAsI rfl rfl) <| nl) ?_
              refine Unw.seq ?_
              refine Go.ret (Unw.ret ?_)
              cases h
              exact ⟨rfl, (fin_of rfl rF250 rfl (by kernel_rfl))⟩
            · rw [if_neg hc24] at h
              refine Go.condF rfl (byF Iff.rfl hc24) ?_
              refine Go.skip ?_
              refine Unw.blk ?_
              refine Unw.seq ?_
              refine Go.r0 c250 rfl rfl (sq z250 (oMv rfl rfl) <| sq z250 (oBi rfl rfl rfl rfl) <| sq z250 (oAsI rfl rfl) <| nl) ?_
              refine Unw.nil ?_
              cases h
              exact ⟨rfl, (by kernel_rfl)⟩
        · rw [if_neg hc19] at h
          refine Go.condF rfl (byF iDec hc19) ?_
          refine Go.exit ?_
          refine Unw.seqx ?_
          refine Unw.nil ?_
          cases h
          exact ⟨rfl, (by kernel_rfl)⟩
      · rintro ⟨e, st⟩ hp
        rcases o with u | r2
        · dsimp only at h
          obtain ⟨he, hst⟩ := hp
          obtain rfl : e = .exit 0 := he
          refine Unw.blkx ?_
          refine Unw.seq ?_
          refine Go.seq ?_
          refine Go.r1 c250 rfl rfl hst (sq z250 (oAsI rfl rfl) <| nl) ?_
          refine Unw.seq ?_
          refine Go.ret (Unw.ret ?_)
          cases h
          exact Fin_ret (fin_of rfl rF250 rfl (by kernel_rfl))
        · dsimp only at h
          obtain ⟨he, hfin⟩ := hp
          obtain rfl : e = .ret := he
          cases h
          exact Unw.ret (Fin_ret hfin)
theorem L_impl_within {n_0 : Int} {low_1 : Int} {high_2 : Int} {r : Bool} (h : impl_within n_0 low_1 high_2 = some r) : FL Try.prog cfg 92 [.im 2 false [.sc (.int .i64 n_0)], .im 2 false [.sc (.int .i64 low_1)], .im 2 false [.sc (.int .i64 high_2)]] = some ([(false, [.im 0 (.sc (.bool r))])], []) := by
  unfold impl_within at h
  refine FL_goS (A := [(0, .v false [.im 2 (.sc (.int .i64 n_0))]), (1, .v false [.im 2 (.sc (.int .i64 low_1))]), (2, .v false [.im 2 (.sc (.int .i64 high_2))])]) (B := [(0, none), (1, none), (2, none)]) (nt := 15) rfl rfl Try.func92 rfl rfl rfl rfl ?_
  refine Go.seq ?_
  refine Go.r0 c92 rfl rfl (sq z92 (oAsI rfl rfl) <| nl) ?_
  refine Unw.seq ?_
  refine Go.seq ?_
  refine Go.rX c92 rfl rfl rfl (mk [(6, bv ((decide (n_0 ≥ low_1)) && (decide (n_0 ≤ high_2))))] []) ?_ ?_
  · by_cases hc1 : n_0 ≥ low_1
    · exact ⟨_, sq z92 (oMv rfl rfl) <| sq z92 (oMv rfl rfl) <| sq z92 (oBi rfl rfl rfl rfl) <| sq z92 (oMv rfl rfl) <| sgT z92 rfl rfl (iDec.2 hc1) (oMv rfl rfl) <| sgT z92 rfl rfl (iDec.2 hc1) (oMv rfl rfl) <| sgT z92 rfl rfl (iDec.2 hc1) (oBi rfl rfl rfl rfl) <| sq z92 (oPkT rfl rfl (iDec.2 hc1) rfl) <| sq z92 (oAsI rfl rfl) <| nl, (Eq.trans (b := (fun t_6_m1 : Bool => mk [(6, bv t_6_m1)] []) (decide (n_0 ≤ high_2))) (by kernel_rfl) (congrArg (fun t_6_m1 : Bool => mk [(6, bv t_6_m1)] []) (by first | rfl | (simp [(iDec.2 hc1)]; done) | (simp [(iDec.2 hc1)]; omega))))⟩
    · exact ⟨_, sq z92 (oMv rfl rfl) <| sq z92 (oMv rfl rfl) <| sq z92 (oBi rfl rfl rfl rfl) <| sq z92 (oMv rfl rfl) <| sgF rfl rfl (byF iDec hc1) rfl <| sgF rfl rfl (byF iDec hc1) rfl <| sgF rfl rfl (byF iDec hc1) rfl <| sq z92 (oPkF rfl rfl (byF iDec hc1) rfl) <| sq z92 (oAsI rfl rfl) <| nl, (Eq.trans (b := (fun t_6_m1 : Bool => mk [(6, bv t_6_m1)] []) false) (by kernel_rfl) (congrArg (fun t_6_m1 : Bool => mk [(6, bv t_6_m1)] []) (by first | rfl | (simp [(byF iDec hc1)]; done) | (simp [(byF iDec hc1)]; omega))))⟩
  · refine Unw.seq ?_
    refine Go.ret (Unw.ret ?_)
    cases h
    exact Fin_ret (fin_of rfl rF92 rfl (by kernel_rfl))
theorem L_impl_ValidCoat {c_0 : S_Coat} {r : Bool} (h : impl_ValidCoat c_0 = some r) : FL Try.prog cfg 189 [.im 2 true [.sc (.string c_0.Name), .sc (.int .i64 c_0.Work), .sc (.int .i64 c_0.Dry), .sc (.int .i64 c_0.Wait)]] = some ([(false, [.im 0 (.sc (.bool r))])], []) := by
  unfold impl_ValidCoat at h
  refine FL_goS (A := [(0, .v true [.im 2 (.sc (.string c_0.Name)), .im 2 (.sc (.int .i64 c_0.Work)), .im 2 (.sc (.int .i64 c_0.Dry)), .im 2 (.sc (.int .i64 c_0.Wait))])]) (B := [(0, none)]) (nt := 23) rfl rfl Try.func189 rfl rfl rfl rfl ?_
  refine Go.seq ?_
  refine Go.r0 c189 rfl rfl (sq z189 (oBx rfl tF128 rfl (tkI (tkI (tkI (tkI tk0))))) <| sq z189 (oAsI rfl rfl) <| nl) ?_
  refine Unw.seq ?_
  refine Go.seq ?_
  obtain ⟨x5, hx5, h⟩ := bs h
  obtain ⟨t_2_m1, hm4, h⟩ := bs h
  refine Go.rX c189 rfl rfl rfl (mk [(2, bv t_2_m1)] []) ?_ ?_
  · by_cases hc1 : x5 = true
    · rw [if_pos hc1] at hm4
      obtain ⟨x9, hx9, hm4⟩ := bs hm4
      by_cases hc2 : x9 = true
      · rw [if_pos hc2] at hm4
        obtain ⟨x14, hx14, hm4⟩ := bs hm4
        by_cases hc3 : x14 = true
        · rw [if_pos hc3] at hm4
          obtain ⟨x21, hx21, hm4⟩ := bs hm4
          cases hm4
          exact ⟨_, sq z189 (oFA (r' := .mp 1 0 0) rfl fF128_0 rfl rfl) <| sq z189 (oLd (cs := [.im 0 _]) rfl tF9 rfl rfl) <| sq z189 (oCa (xs := [.v false [.im 0 _]]) (vs := [(false, [.im 0 _])]) (v := .v false [.im 0 _]) (L_impl_IsName hx5) (.inl rfl) rfl kF250_9 rfl (ppC rfl pp0) rfl rfl pb0 rfl rfl rfl) <| sq z189 (oMv rfl rfl) <| sgT z189 rfl rfl (Iff.rfl.2 hc1) (oFA (r' := .mp 1 0 1) rfl fF128_1 rfl rfl) <| sgT z189 rfl rfl (Iff.rfl.2 hc1) (oLd (cs := [.im 0 _]) rfl tF2 rfl rfl) <| sgT z189 rfl rfl (Iff.rfl.2 hc1) (oCa (xs := [.v false [.im 0 _], .v false [.im 0 _], .v false [.im 0 _]]) (vs := [(false, [.im 0 _])]) (v := .v false [.im 0 _]) (L_impl_within hx9) (.inl rfl) rfl kF92_2_2_2 rfl (ppC rfl (ppC rfl (ppC rfl pp0))) rfl rfl pb0 rfl rfl rfl) <| sq z189 (oPkT rfl rfl (Iff.rfl.2 hc1) rfl) <| sq z189 (oMv rfl rfl) <| sgT z189 rfl rfl (Iff.rfl.2 hc2) (oFA (r' := .mp 1 0 2) rfl fF128_2 rfl rfl) <| sgT z189 rfl rfl (Iff.rfl.2 hc2) (oLd (cs := [.im 0 _]) rfl tF2 rfl rfl) <| sgT z189 rfl rfl (Iff.rfl.2 hc2) (oCa (xs := [.v false [.im 0 _], .v false [.im 0 _], .v false [.im 0 _]]) (vs := [(false, [.im 0 _])]) (v := .v false [.im 0 _]) (L_impl_within hx14) (.inl rfl) rfl kF92_2_2_2 rfl (ppC rfl (ppC rfl (ppC rfl pp0))) rfl rfl pb0 rfl rfl rfl) <| sq z189 (oPkT rfl rfl (Iff.rfl.2 hc2) rfl) <| sq z189 (oMv rfl rfl) <| sgT z189 rfl rfl (Iff.rfl.2 hc3) (oFA (r' := .mp 1 0 3) rfl fF128_3 rfl rfl) <| sgT z189 rfl rfl (Iff.rfl.2 hc3) (oLd (cs := [.im 0 _]) rfl tF2 rfl rfl) <| sgT z189 rfl rfl (Iff.rfl.2 hc3) (oFA (r' := .mp 1 0 2) rfl fF128_2 rfl rfl) <| sgT z189 rfl rfl (Iff.rfl.2 hc3) (oLd (cs := [.im 0 _]) rfl tF2 rfl rfl) <| sgT z189 rfl rfl (Iff.rfl.2 hc3) (oCa (xs := [.v false [.im 0 _], .v false [.im 0 _], .v false [.im 0 _]]) (vs := [(false, [.im 0 _])]) (v := .v false [.im 0 _]) (L_impl_within hx21) (.inl rfl) rfl kF92_2_2_2 rfl (ppC rfl (ppC rfl (ppC rfl pp0))) rfl rfl pb0 rfl rfl rfl) <| sq z189 (oPkT rfl rfl (Iff.rfl.2 hc3) rfl) <| sq z189 (oAsI rfl rfl) <| nl, (by kernel_rfl)⟩
        · rw [if_neg hc3] at hm4
          cases hm4
          exact ⟨_, sq z189 (oFA (r' := .mp 1 0 0) rfl fF128_0 rfl rfl) <| sq z189 (oLd (cs := [.im 0 _]) rfl tF9 rfl rfl) <| sq z189 (oCa (xs := [.v false [.im 0 _]]) (vs := [(false, [.im 0 _])]) (v := .v false [.im 0 _]) (L_impl_IsName hx5) (.inl rfl) rfl kF250_9 rfl (ppC rfl pp0) rfl rfl pb0 rfl rfl rfl) <| sq z189 (oMv rfl rfl) <| sgT z189 rfl rfl (Iff.rfl.2 hc1) (oFA (r' := .mp 1 0 1) rfl fF128_1 rfl rfl) <| sgT z189 rfl rfl (Iff.rfl.2 hc1) (oLd (cs := [.im 0 _]) rfl tF2 rfl rfl) <| sgT z189 rfl rfl (Iff.rfl.2 hc1) (oCa (xs := [.v false [.im 0 _], .v false [.im 0 _], .v false [.im 0 _]]) (vs := [(false, [.im 0 _])]) (v := .v false [.im 0 _]) (L_impl_within hx9) (.inl rfl) rfl kF92_2_2_2 rfl (ppC rfl (ppC rfl (ppC rfl pp0))) rfl rfl pb0 rfl rfl rfl) <| sq z189 (oPkT rfl rfl (Iff.rfl.2 hc1) rfl) <| sq z189 (oMv rfl rfl) <| sgT z189 rfl rfl (Iff.rfl.2 hc2) (oFA (r' := .mp 1 0 2) rfl fF128_2 rfl rfl) <| sgT z189 rfl rfl (Iff.rfl.2 hc2) (oLd (cs := [.im 0 _]) rfl tF2 rfl rfl) <| sgT z189 rfl rfl (Iff.rfl.2 hc2) (oCa (xs := [.v false [.im 0 _], .v false [.im 0 _], .v false [.im 0 _]]) (vs := [(false, [.im 0 _])]) (v := .v false [.im 0 _]) (L_impl_within hx14) (.inl rfl) rfl kF92_2_2_2 rfl (ppC rfl (ppC rfl (ppC rfl pp0))) rfl rfl pb0 rfl rfl rfl) <| sq z189 (oPkT rfl rfl (Iff.rfl.2 hc2) rfl) <| sq z189 (oMv rfl rfl) <| sgF rfl rfl (byF Iff.rfl hc3) rfl <| sgF rfl rfl (byF Iff.rfl hc3) rfl <| sgF rfl rfl (byF Iff.rfl hc3) rfl <| sgF rfl rfl (byF Iff.rfl hc3) rfl <| sgF rfl rfl (byF Iff.rfl hc3) rfl <| sq z189 (oPkF rfl rfl (byF Iff.rfl hc3) rfl) <| sq z189 (oAsI rfl rfl) <| nl, (by kernel_rfl)⟩
      · rw [if_neg hc2] at hm4
        cases hm4
        exact ⟨_, sq z189 (oFA (r' := .mp 1 0 0) rfl fF128_0 rfl rfl) <| sq z189 (oLd (cs := [.im 0 _]) rfl tF9 rfl rfl) <| sq z189 (oCa (xs := [.v false [.im 0 _]]) (vs := [(false, [.im 0 _])]) (v := .v false [.im 0 _]) (L_impl_IsName hx5) (.inl rfl) rfl kF250_9 rfl (ppC rfl pp0) rfl rfl pb0 rfl rfl rfl) <| sq z189 (oMv rfl rfl) <| sgT z189 rfl rfl (Iff.rfl.2 hc1) (oFA (r' := .mp 1 0 1) rfl fF128_1 rfl rfl) <| sgT z189 rfl rfl (Iff.rfl.2 hc1) (oLd (cs := [.im 0 _]) rfl tF2 rfl rfl) <| sgT z189 rfl rfl (Iff.rfl.2 hc1) (oCa (xs := [.v false [.im 0 _], .v false [.im 0 _], .v false [.im 0 _]]) (vs := [(false, [.im 0 _])]) (v := .v false [.im 0 _]) (L_impl_within hx9) (.inl rfl) rfl kF92_2_2_2 rfl (ppC rfl (ppC rfl (ppC rfl pp0))) rfl rfl pb0 rfl rfl rfl) <| sq z189 (oPkT rfl rfl (Iff.rfl.2 hc1) rfl) <| sq z189 (oMv rfl rfl) <| sgF rfl rfl (byF Iff.rfl hc2) rfl <| sgF rfl rfl (byF Iff.rfl hc2) rfl <| sgF rfl rfl (byF Iff.rfl hc2) rfl <| sq z189 (oPkF rfl rfl (byF Iff.rfl hc2) rfl) <| sq z189 (oMv rfl rfl) <| sgF rfl rfl rfl rfl <| sgF rfl rfl rfl rfl <| sgF rfl rfl rfl rfl <| sgF rfl rfl rfl rfl <| sgF rfl rfl rfl rfl <| sq z189 (oPkF rfl rfl rfl rfl) <| sq z189 (oAsI rfl rfl) <| nl, (by kernel_rfl)⟩
    · rw [if_neg hc1] at hm4
      cases hm4
      exact ⟨_, sq z189 (oFA (r' := .mp 1 0 0) rfl fF128_0 rfl rfl) <| sq z189 (oLd (cs := [.im 0 _]) rfl tF9 rfl rfl) <| sq z189 (oCa (xs := [.v false [.im 0 _]]) (vs := [(false, [.im 0 _])]) (v := .v false [.im 0 _]) (L_impl_IsName hx5) (.inl rfl) rfl kF250_9 rfl (ppC rfl pp0) rfl rfl pb0 rfl rfl rfl) <| sq z189 (oMv rfl rfl) <| sgF rfl rfl (byF Iff.rfl hc1) rfl <| sgF rfl rfl (byF Iff.rfl hc1) rfl <| sgF rfl rfl (byF Iff.rfl hc1) rfl <| sq z189 (oPkF rfl rfl (byF Iff.rfl hc1) rfl) <| sq z189 (oMv rfl rfl) <| sgF rfl rfl rfl rfl <| sgF rfl rfl rfl rfl <| sgF rfl rfl rfl rfl <| sq z189 (oPkF rfl rfl rfl rfl) <| sq z189 (oMv rfl rfl) <| sgF rfl rfl rfl rfl <| sgF rfl rfl rfl rfl <| sgF rfl rfl rfl rfl <| sgF rfl rfl rfl rfl <| sgF rfl rfl rfl rfl <| sq z189 (oPkF rfl rfl rfl rfl) <| sq z189 (oAsI rfl rfl) <| nl, (by kernel_rfl)⟩
  · refine Unw.seq ?_
    refine Go.ret (Unw.ret ?_)
    cases h
    exact Fin_ret (fin_of rfl rF189 rfl (by kernel_rfl))
theorem L_impl_ValidCoats_c1 {c_0 : S_Coat} {r : Bool} (h : impl_ValidCoats_c1 c_0 = some r) : FL Try.prog cfg 188 [.im 2 true [.sc (.string c_0.Name), .sc (.int .i64 c_0.Work), .sc (.int .i64 c_0.Dry), .sc (.int .i64 c_0.Wait)]] = some ([(false, [.im 0 (.sc (.bool r))])], []) := by
  unfold impl_ValidCoats_c1 at h
  refine FL_goS (A := [(0, .v true [.im 2 (.sc (.string c_0.Name)), .im 2 (.sc (.int .i64 c_0.Work)), .im 2 (.sc (.int .i64 c_0.Dry)), .im 2 (.sc (.int .i64 c_0.Wait))])]) (B := [(0, none)]) (nt := 6) rfl rfl Try.func188 rfl rfl rfl rfl ?_
  refine Go.seq ?_
  refine Go.r0 c188 rfl rfl (sq z188 (oBx rfl tF128 rfl (tkI (tkI (tkI (tkI tk0))))) <| sq z188 (oAsI rfl rfl) <| nl) ?_
  refine Unw.seq ?_
  refine Go.seq ?_
  obtain ⟨x4, hx4, h⟩ := bs h
  refine Go.r0 c188 rfl rfl (sq z188 (oLd (cs := [.im 0 _, .im 0 _, .im 0 _, .im 0 _]) rfl tF128 rfl rfl) <| sq z188 (oCa (xs := [.v true [.im 0 _, .im 0 _, .im 0 _, .im 0 _]]) (vs := [(false, [.im 0 _])]) (v := .v false [.im 0 _]) (L_impl_ValidCoat hx4) (.inl rfl) rfl kF189_128 rfl (ppC rfl pp0) rfl rfl pb0 rfl rfl rfl) <| sq z188 (oUn rfl rfl rfl) <| sq z188 (oAsI rfl rfl) <| nl) ?_
  refine Unw.seq ?_
  refine Go.ret (Unw.ret ?_)
  cases h
  exact Fin_ret (fin_of rfl rF188 rfl (by kernel_rfl))
theorem L_slices_IndexFunc_impl_Coat_impl_Coat_188 {s_0 : (List S_Coat)} {r : Int} (h : slices_IndexFunc_impl_Coat_impl_Coat s_0 (fun b0 => impl_ValidCoats_c1 b0) = some r) : FL Try.prog cfg 249 [.im 2 false [.row 4 (List.map e_S_Coat s_0)], .im 2 false [.clo 188 []]] = some ([(false, [.im 0 (.sc (.int .i64 r))])], []) := by
  unfold slices_IndexFunc_impl_Coat_impl_Coat at h
  refine FL_goS (A := [(0, .v false [.im 2 (.row 4 (List.map e_S_Coat s_0))]), (1, .v false [.im 2 (.clo 188 [])])]) (B := [(0, none), (1, none)]) (nt := 19) rfl rfl Try.func249 rfl rfl rfl rfl ?_
  refine Go.seq ?_
  refine Go.r0 c249 rfl rfl (sq z249 (oAsI rfl rfl) <| nl) ?_
  refine Unw.seq ?_
  refine Go.seq ?_
  refine Go.seq ?_
  refine Go.r0 c249 rfl rfl (sq z249 (oMv rfl rfl) <| sq z249 (oLnI rfl rfl uF24 rfl) <| sq z249 (oMv rfl rfl) <| nl) ?_
  refine Unw.seq ?_
  refine Go.block ?_
  obtain ⟨o, hl, h⟩ := bs h
  refine Go.lp c249 rfl _ (fun (t_8_l2 : Int) => mk [(0, .v false [.im 2 (.row 4 (List.map e_S_Coat s_0))]), (1, .v false [.im 2 (.clo 188 [])]), (7, iv (s_0.length : Int)), (8, iv t_8_l2)] []) (fun (o : (Unit ⊕ Int)) (p : Ex × St) => match o with | (.inl _) => p.1 = .exit 0 ∧ p.2.norm ([], []) = mk [] [] | (.inr r2) => p.1 = .ret ∧ fin Try.prog cfg 249 Try.f249 [.im 2 false [.row 4 (List.map e_S_Coat s_0)], .im 2 false [.clo 188 []]] p.2 = some ([(false, [.im 0 (.sc (.int .i64 r2))])], [])) hl (by kernel_rfl) ?_ ?_ ?_
  · intro o p hp e
    rcases o with u | r2 <;> exact nomatch (hp.1.symm.trans e)
  · rintro t_8_l2 o h
    unfold slices_IndexFunc_impl_Coat_impl_Coat_l2 at h
    refine Go.seq ?_
    refine Go.r0 c249 rfl rfl (sq z249 (oBi rfl rfl rfl rfl) <| nl) ?_
    refine Unw.seq ?_
    refine Go.seq ?_
    by_cases hc5 : t_8_l2 < (s_0.length : Int)
    · rw [if_pos hc5] at h
      refine Go.condT rfl (iDec.2 hc5) ?_
      refine Go.skip ?_
      refine Unw.seq ?_
      refine Go.seq ?_
      refine Go.block ?_
      refine Go.seq ?_
      refine Go.r0 c249 rfl rfl (sq z249 (oMv rfl rfl) <| sq z249 (oAsI rfl rfl) <| nl) ?_
      refine Unw.seq ?_
      refine Go.seq ?_
      obtain ⟨x14, hx14, h⟩ := bs h
      obtain ⟨x16, hx16, h⟩ := bs h
      refine Go.r0 c249 rfl rfl (sq z249 (oMv rfl rfl) <| sq z249 (oMv rfl rfl) <| sq z249 (oMv rfl rfl) <| sq z249 (oIAI rfl hx14 sF24 rfl rfl) <| sq z249 (oLd (cs := [.im 2 _, .im 2 _, .im 2 _, .im 2 _]) rfl tF128 rfl rfl) <| sq z249 (oCa (xs := [.v true [.im 2 _, .im 2 _, .im 2 _, .im 2 _]]) (vs := [(false, [.im 0 _])]) (v := .v false [.im 0 _]) (L_impl_ValidCoats_c1 hx16) (.inr ⟨_, _, rfl, rfl⟩) rfl kF188_128 rfl (ppC rfl pp0) rfl rfl pb0 rfl rfl rfl) <| nl) ?_
      refine Unw.seq ?_
      by_cases hc6 : x16 = true
      · rw [if_pos hc6] at h
        refine Go.condT rfl (Iff.rfl.2 hc6) ?_
        refine Go.seq ?_
        refine Go.r0 c249 rfl rfl (sq z249 (oMv rfl rfl) <| sq z249 (oAsI rfl rfl) <| nl) ?_
        refine Unw.seq ?_
        refine Go.ret (Unw.ret ?_)
        cases h
        exact ⟨rfl, (fin_of rfl rF249 rfl (by kernel_rfl))⟩
      · rw [if_neg hc6] at h
        refine Go.condF rfl (byF Iff.rfl hc6) ?_
        refine Go.skip ?_
        refine Unw.blk ?_
        refine Unw.seq ?_
        refine Go.r0 c249 rfl rfl (sq z249 (oBi rfl rfl rfl rfl) <| sq z249 (oMv rfl rfl) <| nl) ?_
        refine Unw.nil ?_
        cases h
        exact ⟨rfl, (by kernel_rfl)⟩
    · rw [if_neg hc5] at h
      refine Go.condF rfl (byF iDec hc5) ?_
      refine Go.exit ?_
      refine Unw.seqx ?_
      refine Unw.nil ?_
      cases h
      exact ⟨rfl, (by kernel_rfl)⟩
  · rintro ⟨e, st⟩ hp
    rcases o with u | r2
    · dsimp only at h
      obtain ⟨he, hst⟩ := hp
      obtain rfl : e = .exit 0 := he
      refine Unw.blkx ?_
      refine Unw.seq ?_
      refine Go.seq ?_
      refine Go.r1 c249 rfl rfl hst (sq z249 (oAsI rfl rfl) <| nl) ?_
      refine Unw.seq ?_
      refine Go.ret (Unw.ret ?_)
      cases h
      exact Fin_ret (fin_of rfl rF249 rfl (by kernel_rfl))
    · dsimp only at h
      obtain ⟨he, hfin⟩ := hp
      obtain rfl : e = .ret := he
      cases h
      exact Unw.ret (Fin_ret hfin)
theorem L_slices_ContainsFunc_impl_Coat_impl_Coat_188 {s_0 : (List S_Coat)} {r : Bool} (h : slices_ContainsFunc_impl_Coat_impl_Coat s_0 (fun b0 => impl_ValidCoats_c1 b0) = some r) : FL Try.prog cfg 185 [.im 2 false [.row 4 (List.map e_S_Coat s_0)], .im 2 false [.clo 188 []]] = some ([(false, [.im 0 (.sc (.bool r))])], []) := by
  unfold slices_ContainsFunc_impl_Coat_impl_Coat at h
  refine FL_goS (A := [(0, .v false [.im 2 (.row 4 (List.map e_S_Coat s_0))]), (1, .v false [.im 2 (.clo 188 [])])]) (B := [(0, none), (1, none)]) (nt := 9) rfl rfl Try.func185 rfl rfl rfl rfl ?_
  refine Go.seq ?_
  refine Go.r0 c185 rfl rfl (sq z185 (oAsI rfl rfl) <| nl) ?_
  refine Unw.seq ?_
  refine Go.seq ?_
  obtain ⟨x7, hx7, h⟩ := bs h
  refine Go.r0 c185 rfl rfl (sq z185 (oMv rfl rfl) <| sq z185 (oMv rfl rfl) <| sq z185 (oCa (xs := [.v false [.im 2 _], .v false [.im 2 _]]) (vs := [(false, [.im 0 _])]) (v := .v false [.im 0 _]) (L_slices_IndexFunc_impl_Coat_impl_Coat_188 hx7) (.inl rfl) rfl kF249_24_287 rfl (ppC rfl (ppC rfl pp0)) rfl rfl pb0 rfl rfl rfl) <| sq z185 (oBi rfl rfl rfl rfl) <| sq z185 (oAsI rfl rfl) <| nl) ?_
  refine Unw.seq ?_
  refine Go.ret (Unw.ret ?_)
  cases h
  exact Fin_ret (fin_of rfl rF185 rfl (by kernel_rfl))
theorem L_impl_ValidCoats {list_0 : (List S_Coat)} {r : Bool} (h : impl_ValidCoats list_0 = some r) : FL Try.prog cfg 91 [.im 2 false [.row 4 (List.map e_S_Coat list_0)]] = some ([(false, [.im 0 (.sc (.bool r))])], []) := by
  unfold impl_ValidCoats at h
  refine FL_goS (A := [(0, .v false [.im 2 (.row 4 (List.map e_S_Coat list_0))])]) (B := [(0, none)]) (nt := 11) rfl rfl Try.func91 rfl rfl rfl rfl ?_
  refine Go.seq ?_
  refine Go.r0 c91 rfl rfl (sq z91 (oAsI rfl rfl) <| nl) ?_
  refine Unw.seq ?_
  refine Go.seq ?_
  obtain ⟨t_2_m1, hm2, h⟩ := bs h
  refine Go.rX c91 rfl rfl rfl (mk [(2, bv t_2_m1)] []) ?_ ?_
  · by_cases hc1 : (list_0.length : Int) ≤ 8
    · rw [if_pos hc1] at hm2
      obtain ⟨x8, hx8, hm2⟩ := bs hm2
      cases hm2
      exact ⟨_, sq z91 (oMv rfl rfl) <| sq z91 (oLnI rfl rfl uF24 rfl) <| sq z91 (oBi rfl rfl rfl rfl) <| sq z91 (oMv rfl rfl) <| sgT z91 rfl rfl (iDec.2 hc1) (oMv rfl rfl) <| sgT z91 rfl rfl (iDec.2 hc1) (oCa (xs := [.v false [.im 2 _], .fn 188 []]) (vs := [(false, [.im 0 _])]) (v := .v false [.im 0 _]) (L_slices_ContainsFunc_impl_Coat_impl_Coat_188 hx8) (.inl rfl) rfl kF185_24_287 rfl (ppC rfl (ppC rfl pp0)) rfl rfl pb0 rfl rfl rfl) <| sgT z91 rfl rfl (iDec.2 hc1) (oUn rfl rfl rfl) <| sq z91 (oPkT rfl rfl (iDec.2 hc1) rfl) <| sq z91 (oAsI rfl rfl) <| nl, (by kernel_rfl)⟩
    · rw [if_neg hc1] at hm2
      cases hm2
      exact ⟨_, sq z91 (oMv rfl rfl) <| sq z91 (oLnI rfl rfl uF24 rfl) <| sq z91 (oBi rfl rfl rfl rfl) <| sq z91 (oMv rfl rfl) <| sgF rfl rfl (byF iDec hc1) rfl <| sgF rfl rfl (byF iDec hc1) rfl <| sgF rfl rfl (byF iDec hc1) rfl <| sq z91 (oPkF rfl rfl (byF iDec hc1) rfl) <| sq z91 (oAsI rfl rfl) <| nl, (by kernel_rfl)⟩
  · refine Unw.seq ?_
    refine Go.ret (Unw.ret ?_)
    cases h
    exact Fin_ret (fin_of rfl rF91 rfl (by kernel_rfl))
theorem L_impl_areHours {open_0 : Int} {end_1 : Int} {r : Bool} (h : impl_areHours open_0 end_1 = some r) : FL Try.prog cfg 93 [.im 2 false [.sc (.int .i64 open_0)], .im 2 false [.sc (.int .i64 end_1)]] = some ([(false, [.im 0 (.sc (.bool r))])], []) := by
  unfold impl_areHours at h
  refine FL_goS (A := [(0, .v false [.im 2 (.sc (.int .i64 open_0))]), (1, .v false [.im 2 (.sc (.int .i64 end_1))])]) (B := [(0, none), (1, none)]) (nt := 16) rfl rfl Try.func93 rfl rfl rfl rfl ?_
  refine Go.seq ?_
  refine Go.r0 c93 rfl rfl (sq z93 (oAsI rfl rfl) <| nl) ?_
  refine Unw.seq ?_
  refine Go.seq ?_
  refine Go.rX c93 rfl rfl rfl (mk [(4, bv ((decide (0 ≤ open_0)) && ((decide (open_0 < end_1)) && (decide (end_1 ≤ 96)))))] []) ?_ ?_
  · by_cases hc1 : 0 ≤ open_0
    · by_cases hc2 : open_0 < end_1
      · exact ⟨_, sq z93 (oMv rfl rfl) <| sq z93 (oBi rfl rfl rfl rfl) <| sq z93 (oMv rfl rfl) <| sgT z93 rfl rfl (iDec.2 hc1) (oMv rfl rfl) <| sgT z93 rfl rfl (iDec.2 hc1) (oMv rfl rfl) <| sgT z93 rfl rfl (iDec.2 hc1) (oBi rfl rfl rfl rfl) <| sq z93 (oPkT rfl rfl (iDec.2 hc1) rfl) <| sq z93 (oMv rfl rfl) <| sgT z93 rfl rfl (iDec.2 hc2) (oMv rfl rfl) <| sgT z93 rfl rfl (iDec.2 hc2) (oBi rfl rfl rfl rfl) <| sq z93 (oPkT rfl rfl (iDec.2 hc2) rfl) <| sq z93 (oAsI rfl rfl) <| nl, (Eq.trans (b := (fun t_4_m1 : Bool => mk [(4, bv t_4_m1)] []) (decide (end_1 ≤ 96))) (by kernel_rfl) (congrArg (fun t_4_m1 : Bool => mk [(4, bv t_4_m1)] []) (by first | rfl | (simp [(iDec.2 hc1), (iDec.2 hc2)]; done) | (simp [(iDec.2 hc1), (iDec.2 hc2)]; omega))))⟩
      · exact ⟨_, sq z93 (oMv rfl rfl) <| sq z93 (oBi rfl rfl rfl rfl) <| sq z93 (oMv rfl rfl) <| sgT z93 rfl rfl (iDec.2 hc1) (oMv rfl rfl) <| sgT z93 rfl rfl (iDec.2 hc1) (oMv rfl rfl) <| sgT z93 rfl rfl (iDec.2 hc1) (oBi rfl rfl rfl rfl) <| sq z93 (oPkT rfl rfl (iDec.2 hc1) rfl) <| sq z93 (oMv rfl rfl) <| sgF rfl rfl (byF iDec hc2) rfl <| sgF rfl rfl (byF iDec hc2) rfl <| sq z93 (oPkF rfl rfl (byF iDec hc2) rfl) <| sq z93 (oAsI rfl rfl) <| nl, (Eq.trans (b := (fun t_4_m1 : Bool => mk [(4, bv t_4_m1)] []) false) (by kernel_rfl) (congrArg (fun t_4_m1 : Bool => mk [(4, bv t_4_m1)] []) (by first | rfl | (simp [(iDec.2 hc1), (byF iDec hc2)]; done) | (simp [(iDec.2 hc1), (byF iDec hc2)]; omega))))⟩
    · exact ⟨_, sq z93 (oMv rfl rfl) <| sq z93 (oBi rfl rfl rfl rfl) <| sq z93 (oMv rfl rfl) <| sgF rfl rfl (byF iDec hc1) rfl <| sgF rfl rfl (byF iDec hc1) rfl <| sgF rfl rfl (byF iDec hc1) rfl <| sq z93 (oPkF rfl rfl (byF iDec hc1) rfl) <| sq z93 (oMv rfl rfl) <| sgF rfl rfl rfl rfl <| sgF rfl rfl rfl rfl <| sq z93 (oPkF rfl rfl rfl rfl) <| sq z93 (oAsI rfl rfl) <| nl, (Eq.trans (b := (fun t_4_m1 : Bool => mk [(4, bv t_4_m1)] []) false) (by kernel_rfl) (congrArg (fun t_4_m1 : Bool => mk [(4, bv t_4_m1)] []) (by first | rfl | (simp [(byF iDec hc1)]; done) | (simp [(byF iDec hc1)]; omega))))⟩
  · refine Unw.seq ?_
    refine Go.ret (Unw.ret ?_)
    cases h
    exact Fin_ret (fin_of rfl rF93 rfl (by kernel_rfl))
theorem L_impl_coatsCode_c1 {c_0 : S_Coat} {cap0_0 : Int} {cap1_0 : Int} {r : Bool} (h : impl_coatsCode_c1 c_0 cap0_0 cap1_0 = some r) : FL Try.prog cfg 186 [.im 2 true [.sc (.string c_0.Name), .sc (.int .i64 c_0.Work), .sc (.int .i64 c_0.Dry), .sc (.int .i64 c_0.Wait)], .im 2 false [.cp [.sc (.int .i64 cap0_0)] 0], .im 2 false [.cp [.sc (.int .i64 cap1_0)] 0]] = some ([(false, [.im 0 (.sc (.bool r))])], []) := by
  unfold impl_coatsCode_c1 at h
  refine FL_goS (A := [(0, .v true [.im 2 (.sc (.string c_0.Name)), .im 2 (.sc (.int .i64 c_0.Work)), .im 2 (.sc (.int .i64 c_0.Dry)), .im 2 (.sc (.int .i64 c_0.Wait))]), (1, .v false [.im 2 (.cp [.sc (.int .i64 cap0_0)] 0)]), (2, .v false [.im 2 (.cp [.sc (.int .i64 cap1_0)] 0)])]) (B := [(0, none), (1, none), (2, none)]) (nt := 11) rfl rfl Try.func186 rfl rfl rfl rfl ?_
  refine Go.seq ?_
  refine Go.r0 c186 rfl rfl (sq z186 (oBx rfl tF128 rfl (tkI (tkI (tkI (tkI tk0))))) <| sq z186 (oAsI rfl rfl) <| nl) ?_
  refine Unw.seq ?_
  refine Go.seq ?_
  refine Go.r0 c186 rfl rfl (sq z186 (oFA (r' := .mp 3 0 1) rfl fF128_1 rfl rfl) <| sq z186 (oLd (cs := [.im 0 _]) rfl tF2 rfl rfl) <| sq z186 (oLd (cs := [.im 2 _]) rfl tF2 rfl rfl) <| sq z186 (oLd (cs := [.im 2 _]) rfl tF2 rfl rfl) <| sq z186 (oBi rfl rfl rfl rfl) <| sq z186 (oBi rfl rfl rfl rfl) <| sq z186 (oAsI rfl rfl) <| nl) ?_
  refine Unw.seq ?_
  refine Go.ret (Unw.ret ?_)
  cases h
  exact Fin_ret (fin_of rfl rF186 rfl (by kernel_rfl))
theorem L_slices_IndexFunc_impl_Coat_impl_Coat_186 {s_0 : (List S_Coat)} {fc1_0_0 : Int} {fc1_1_0 : Int} {r : Int} (h : slices_IndexFunc_impl_Coat_impl_Coat s_0 (fun b0 => impl_coatsCode_c1 b0 fc1_0_0 fc1_1_0) = some r) : FL Try.prog cfg 249 [.im 2 false [.row 4 (List.map e_S_Coat s_0)], .im 2 false [.clo 186 [.cp [.sc (.int .i64 fc1_0_0)] 0, .cp [.sc (.int .i64 fc1_1_0)] 0]]] = some ([(false, [.im 0 (.sc (.int .i64 r))])], []) := by
  unfold slices_IndexFunc_impl_Coat_impl_Coat at h
  refine FL_goS (A := [(0, .v false [.im 2 (.row 4 (List.map e_S_Coat s_0))]), (1, .v false [.im 2 (.clo 186 [.cp [.sc (.int .i64 fc1_0_0)] 0, .cp [.sc (.int .i64 fc1_1_0)] 0])])]) (B := [(0, none), (1, none)]) (nt := 19) rfl rfl Try.func249 rfl rfl rfl rfl ?_
  refine Go.seq ?_
  refine Go.r0 c249 rfl rfl (sq z249 (oAsI rfl rfl) <| nl) ?_
  refine Unw.seq ?_
  refine Go.seq ?_
  refine Go.seq ?_
  refine Go.r0 c249 rfl rfl (sq z249 (oMv rfl rfl) <| sq z249 (oLnI rfl rfl uF24 rfl) <| sq z249 (oMv rfl rfl) <| nl) ?_
  refine Unw.seq ?_
  refine Go.block ?_
  obtain ⟨o, hl, h⟩ := bs h
  refine Go.lp c249 rfl _ (fun (t_8_l2 : Int) => mk [(0, .v false [.im 2 (.row 4 (List.map e_S_Coat s_0))]), (1, .v false [.im 2 (.clo 186 [.cp [.sc (.int .i64 fc1_0_0)] 0, .cp [.sc (.int .i64 fc1_1_0)] 0])]), (7, iv (s_0.length : Int)), (8, iv t_8_l2)] []) (fun (o : (Unit ⊕ Int)) (p : Ex × St) => match o with | (.inl _) => p.1 = .exit 0 ∧ p.2.norm ([], []) = mk [] [] | (.inr r2) => p.1 = .ret ∧ fin Try.prog cfg 249 Try.f249 [.im 2 false [.row 4 (List.map e_S_Coat s_0)], .im 2 false [.clo 186 [.cp [.sc (.int .i64 fc1_0_0)] 0, .cp [.sc (.int .i64 fc1_1_0)] 0]]] p.2 = some ([(false, [.im 0 (.sc (.int .i64 r2))])], [])) hl (by kernel_rfl) ?_ ?_ ?_
  · intro o p hp e
    rcases o with u | r2 <;> exact nomatch (hp.1.symm.trans e)
  · rintro t_8_l2 o h
    unfold slices_IndexFunc_impl_Coat_impl_Coat_l2 at h
    refine Go.seq ?_
    refine Go.r0 c249 rfl rfl (sq z249 (oBi rfl rfl rfl rfl) <| nl) ?_
    refine Unw.seq ?_
    refine Go.seq ?_
    by_cases hc5 : t_8_l2 < (s_0.length : Int)
    · rw [if_pos hc5] at h
      refine Go.condT rfl (iDec.2 hc5) ?_
      refine Go.skip ?_
      refine Unw.seq ?_
      refine Go.seq ?_
      refine Go.block ?_
      refine Go.seq ?_
      refine Go.r0 c249 rfl rfl (sq z249 (oMv rfl rfl) <| sq z249 (oAsI rfl rfl) <| nl) ?_
      refine Unw.seq ?_
      refine Go.seq ?_
      obtain ⟨x14, hx14, h⟩ := bs h
      obtain ⟨x16, hx16, h⟩ := bs h
      refine Go.r0 c249 rfl rfl (sq z249 (oMv rfl rfl) <| sq z249 (oMv rfl rfl) <| sq z249 (oMv rfl rfl) <| sq z249 (oIAI rfl hx14 sF24 rfl rfl) <| sq z249 (oLd (cs := [.im 2 _, .im 2 _, .im 2 _, .im 2 _]) rfl tF128 rfl rfl) <| sq z249 (oCa (xs := [.v true [.im 2 _, .im 2 _, .im 2 _, .im 2 _], .v false [.im 2 _], .v false [.im 2 _]]) (vs := [(false, [.im 0 _])]) (v := .v false [.im 0 _]) (L_impl_coatsCode_c1 hx16) (.inr ⟨_, _, rfl, rfl⟩) rfl kF186_128_0_0 rfl (ppC rfl (ppC rfl (ppC rfl pp0))) rfl rfl pb0 rfl rfl rfl) <| nl) ?_
      refine Unw.seq ?_
      by_cases hc6 : x16 = true
      · rw [if_pos hc6] at h
        refine Go.condT rfl (Iff.rfl.2 hc6) ?_
        refine Go.seq ?_
        refine Go.r0 c249 rfl rfl (sq z249 (oMv rfl rfl) <| sq z249 (oAsI rfl rfl) <| nl) ?_
        refine Unw.seq ?_
        refine Go.ret (Unw.ret ?_)
        cases h
        exact ⟨rfl, (fin_of rfl rF249 rfl (by kernel_rfl))⟩
      · rw [if_neg hc6] at h
        refine Go.condF rfl (byF Iff.rfl hc6) ?_
        refine Go.skip ?_
        refine Unw.blk ?_
        refine Unw.seq ?_
        refine Go.r0 c249 rfl rfl (sq z249 (oBi rfl rfl rfl rfl) <| sq z249 (oMv rfl rfl) <| nl) ?_
        refine Unw.nil ?_
        cases h
        exact ⟨rfl, (by kernel_rfl)⟩
    · rw [if_neg hc5] at h
      refine Go.condF rfl (byF iDec hc5) ?_
      refine Go.exit ?_
      refine Unw.seqx ?_
      refine Unw.nil ?_
      cases h
      exact ⟨rfl, (by kernel_rfl)⟩
  · rintro ⟨e, st⟩ hp
    rcases o with u | r2
    · dsimp only at h
      obtain ⟨he, hst⟩ := hp
      obtain rfl : e = .exit 0 := he
      refine Unw.blkx ?_
      refine Unw.seq ?_
      refine Go.seq ?_
      refine Go.r1 c249 rfl rfl hst (sq z249 (oAsI rfl rfl) <| nl) ?_
      refine Unw.seq ?_
      refine Go.ret (Unw.ret ?_)
      cases h
      exact Fin_ret (fin_of rfl rF249 rfl (by kernel_rfl))
    · dsimp only at h
      obtain ⟨he, hfin⟩ := hp
      obtain rfl : e = .ret := he
      cases h
      exact Unw.ret (Fin_ret hfin)
theorem L_slices_ContainsFunc_impl_Coat_impl_Coat_186 {s_0 : (List S_Coat)} {fc1_0_0 : Int} {fc1_1_0 : Int} {r : Bool} (h : slices_ContainsFunc_impl_Coat_impl_Coat s_0 (fun b0 => impl_coatsCode_c1 b0 fc1_0_0 fc1_1_0) = some r) : FL Try.prog cfg 185 [.im 2 false [.row 4 (List.map e_S_Coat s_0)], .im 2 false [.clo 186 [.cp [.sc (.int .i64 fc1_0_0)] 0, .cp [.sc (.int .i64 fc1_1_0)] 0]]] = some ([(false, [.im 0 (.sc (.bool r))])], []) := by
  unfold slices_ContainsFunc_impl_Coat_impl_Coat at h
  refine FL_goS (A := [(0, .v false [.im 2 (.row 4 (List.map e_S_Coat s_0))]), (1, .v false [.im 2 (.clo 186 [.cp [.sc (.int .i64 fc1_0_0)] 0, .cp [.sc (.int .i64 fc1_1_0)] 0])])]) (B := [(0, none), (1, none)]) (nt := 9) rfl rfl Try.func185 rfl rfl rfl rfl ?_
  refine Go.seq ?_
  refine Go.r0 c185 rfl rfl (sq z185 (oAsI rfl rfl) <| nl) ?_
  refine Unw.seq ?_
  refine Go.seq ?_
  obtain ⟨x7, hx7, h⟩ := bs h
  refine Go.r0 c185 rfl rfl (sq z185 (oMv rfl rfl) <| sq z185 (oMv rfl rfl) <| sq z185 (oCa (xs := [.v false [.im 2 _], .v false [.im 2 _]]) (vs := [(false, [.im 0 _])]) (v := .v false [.im 0 _]) (L_slices_IndexFunc_impl_Coat_impl_Coat_186 hx7) (.inl rfl) rfl kF249_24_287 rfl (ppC rfl (ppC rfl pp0)) rfl rfl pb0 rfl rfl rfl) <| sq z185 (oBi rfl rfl rfl rfl) <| sq z185 (oAsI rfl rfl) <| nl) ?_
  refine Unw.seq ?_
  refine Go.ret (Unw.ret ?_)
  cases h
  exact Fin_ret (fin_of rfl rF185 rfl (by kernel_rfl))
theorem L_impl_coatsCode {list_0 : (List S_Coat)} {start_1 : Int} {open_2 : Int} {end_3 : Int} {budget_4 : Int} {r : Int} (h : impl_coatsCode list_0 start_1 open_2 end_3 budget_4 = some r) : FL Try.prog cfg 88 [.im 2 false [.row 4 (List.map e_S_Coat list_0)], .im 2 false [.sc (.int .i64 start_1)], .im 2 false [.sc (.int .i64 open_2)], .im 2 false [.sc (.int .i64 end_3)], .im 2 false [.sc (.int .i64 budget_4)]] = some ([(false, [.im 0 (.sc (.int .i64 r))])], []) := by
  unfold impl_coatsCode at h
  refine FL_goS (A := [(0, .v false [.im 2 (.row 4 (List.map e_S_Coat list_0))]), (1, .v false [.im 2 (.sc (.int .i64 start_1))]), (2, .v false [.im 2 (.sc (.int .i64 open_2))]), (3, .v false [.im 2 (.sc (.int .i64 end_3))]), (4, .v false [.im 2 (.sc (.int .i64 budget_4))])]) (B := [(0, none), (1, none), (2, none), (3, none), (4, none)]) (nt := 34) rfl rfl Try.func88 rfl rfl rfl rfl ?_
  refine Go.seq ?_
  refine Go.r0 c88 rfl rfl (sq z88 (oBx rfl tF2 rfl (tkI tk0)) <| sq z88 (oBx rfl tF2 rfl (tkI tk0)) <| sq z88 (oAsI rfl rfl) <| nl) ?_
  refine Unw.seq ?_
  refine Go.seq ?_
  refine Go.block ?_
  refine Go.seq ?_
  obtain ⟨x13, hx13, h⟩ := bs h
  refine Go.r0 c88 rfl rfl (sq z88 (oMv rfl rfl) <| sq z88 (oCa (xs := [.v false [.im 2 _]]) (vs := [(false, [.im 0 _])]) (v := .v false [.im 0 _]) (L_impl_ValidCoats hx13) (.inl rfl) rfl kF91_24 rfl (ppC rfl pp0) rfl rfl pb0 rfl rfl rfl) <| sq z88 (oUn rfl rfl rfl) <| sq z88 (oAsI rfl rfl) <| nl) ?_
  refine Unw.seq ?_
  by_cases hc1 : x13 = true
  · rw [if_pos hc1] at h
    refine Go.condF rfl (nF (Iff.rfl.2 hc1)) ?_
    refine Go.seq ?_
    obtain ⟨x17, hx17, h⟩ := bs h
    obtain ⟨t_15_m3, hm6, h⟩ := bs h
    refine Go.rX c88 rfl rfl rfl (mk [(0, .v false [.im 2 (.row 4 (List.map e_S_Coat list_0))]), (7, .v false [.mp 7 0 0]), (8, .v false [.mp 8 0 0]), (15, bv t_15_m3)] [(7, some ⟨0, 0, false, true, false, false, [⟨.imm, 0, 0, .sc (.int .i64 open_2)⟩]⟩), (8, some ⟨0, 0, false, true, false, false, [⟨.imm, 0, 0, .sc (.int .i64 end_3)⟩]⟩)]) ?_ ?_
    · by_cases hc2 : x17 = true
      · rw [if_pos hc2] at hm6
        obtain ⟨x21, hx21, hm6⟩ := bs hm6
        by_cases hc3 : x21 = true
        · rw [if_pos hc3] at hm6
          obtain ⟨x27, hx27, hm6⟩ := bs hm6
          cases hm6
          exact ⟨_, sq z88 (oMv rfl rfl) <| sq z88 (oCa (xs := [.v false [.im 2 _], .v false [.im 0 _], .v false [.im 0 _]]) (vs := [(false, [.im 0 _])]) (v := .v false [.im 0 _]) (L_impl_within hx17) (.inl rfl) rfl kF92_2_2_2 rfl (ppC rfl (ppC rfl (ppC rfl pp0))) rfl rfl pb0 rfl rfl rfl) <| sq z88 (oUn rfl rfl rfl) <| sq z88 (oMv rfl rfl) <| sgT z88 rfl rfl (nF (Iff.rfl.2 hc2)) (oMv rfl rfl) <| sgT z88 rfl rfl (nF (Iff.rfl.2 hc2)) (oCa (xs := [.v false [.im 2 _], .v false [.im 0 _], .v false [.im 0 _]]) (vs := [(false, [.im 0 _])]) (v := .v false [.im 0 _]) (L_impl_within hx21) (.inl rfl) rfl kF92_2_2_2 rfl (ppC rfl (ppC rfl (ppC rfl pp0))) rfl rfl pb0 rfl rfl rfl) <| sgT z88 rfl rfl (nF (Iff.rfl.2 hc2)) (oUn rfl rfl rfl) <| sq z88 (oPkF rfl rfl (nF (Iff.rfl.2 hc2)) rfl) <| sq z88 (oMv rfl rfl) <| sgT z88 rfl rfl (nF (Iff.rfl.2 hc3)) (oLd (cs := [.im 0 _]) rfl tF2 rfl rfl) <| sgT z88 rfl rfl (nF (Iff.rfl.2 hc3)) (oLd (cs := [.im 0 _]) rfl tF2 rfl rfl) <| sgT z88 rfl rfl (nF (Iff.rfl.2 hc3)) (oCa (xs := [.v false [.im 0 _], .v false [.im 0 _]]) (vs := [(false, [.im 0 _])]) (v := .v false [.im 0 _]) (L_impl_areHours hx27) (.inl rfl) rfl kF93_2_2 rfl (ppC rfl (ppC rfl pp0)) rfl rfl pb0 rfl rfl rfl) <| sgT z88 rfl rfl (nF (Iff.rfl.2 hc3)) (oUn rfl rfl rfl) <| sq z88 (oPkF rfl rfl (nF (Iff.rfl.2 hc3)) rfl) <| sq z88 (oAsI rfl rfl) <| nl, (by kernel_rfl)⟩
        · rw [if_neg hc3] at hm6
          cases hm6
          exact ⟨_, sq z88 (oMv rfl rfl) <| sq z88 (oCa (xs := [.v false [.im 2 _], .v false [.im 0 _], .v false [.im 0 _]]) (vs := [(false, [.im 0 _])]) (v := .v false [.im 0 _]) (L_impl_within hx17) (.inl rfl) rfl kF92_2_2_2 rfl (ppC rfl (ppC rfl (ppC rfl pp0))) rfl rfl pb0 rfl rfl rfl) <| sq z88 (oUn rfl rfl rfl) <| sq z88 (oMv rfl rfl) <| sgT z88 rfl rfl (nF (Iff.rfl.2 hc2)) (oMv rfl rfl) <| sgT z88 rfl rfl (nF (Iff.rfl.2 hc2)) (oCa (xs := [.v false [.im 2 _], .v false [.im 0 _], .v false [.im 0 _]]) (vs := [(false, [.im 0 _])]) (v := .v false [.im 0 _]) (L_impl_within hx21) (.inl rfl) rfl kF92_2_2_2 rfl (ppC rfl (ppC rfl (ppC rfl pp0))) rfl rfl pb0 rfl rfl rfl) <| sgT z88 rfl rfl (nF (Iff.rfl.2 hc2)) (oUn rfl rfl rfl) <| sq z88 (oPkF rfl rfl (nF (Iff.rfl.2 hc2)) rfl) <| sq z88 (oMv rfl rfl) <| sgF rfl rfl (nT (byF Iff.rfl hc3)) rfl <| sgF rfl rfl (nT (byF Iff.rfl hc3)) rfl <| sgF rfl rfl (nT (byF Iff.rfl hc3)) rfl <| sgF rfl rfl (nT (byF Iff.rfl hc3)) rfl <| sq z88 (oPkT rfl rfl (nT (byF Iff.rfl hc3)) rfl) <| sq z88 (oAsI rfl rfl) <| nl, (by kernel_rfl)⟩
      · rw [if_neg hc2] at hm6
        cases hm6
        exact ⟨_, sq z88 (oMv rfl rfl) <| sq z88 (oCa (xs := [.v false [.im 2 _], .v false [.im 0 _], .v false [.im 0 _]]) (vs := [(false, [.im 0 _])]) (v := .v false [.im 0 _]) (L_impl_within hx17) (.inl rfl) rfl kF92_2_2_2 rfl (ppC rfl (ppC rfl (ppC rfl pp0))) rfl rfl pb0 rfl rfl rfl) <| sq z88 (oUn rfl rfl rfl) <| sq z88 (oMv rfl rfl) <| sgF rfl rfl (nT (byF Iff.rfl hc2)) rfl <| sgF rfl rfl (nT (byF Iff.rfl hc2)) rfl <| sgF rfl rfl (nT (byF Iff.rfl hc2)) rfl <| sq z88 (oPkT rfl rfl (nT (byF Iff.rfl hc2)) rfl) <| sq z88 (oMv rfl rfl) <| sgF rfl rfl rfl rfl <| sgF rfl rfl rfl rfl <| sgF rfl rfl rfl rfl <| sgF rfl rfl rfl rfl <| sq z88 (oPkT rfl rfl rfl rfl) <| sq z88 (oAsI rfl rfl) <| nl, (by kernel_rfl)⟩
    · refine Unw.seq ?_
      by_cases hc4 : t_15_m3 = true
      · rw [if_pos hc4] at h
        refine Go.condT rfl (Iff.rfl.2 hc4) ?_
        refine Go.seq ?_
        refine Go.r0 c88 rfl rfl (sq z88 (oAsI rfl rfl) <| nl) ?_
        refine Unw.seq ?_
        refine Go.ret (Unw.ret ?_)
        cases h
        exact Fin_ret (fin_of rfl rF88 rfl (by kernel_rfl))
      · rw [if_neg hc4] at h
        refine Go.condF rfl (byF Iff.rfl hc4) ?_
        refine Go.seq ?_
        obtain ⟨x33, hx33, h⟩ := bs h
        refine Go.r0 c88 rfl rfl (sq z88 (oMv rfl rfl) <| sq z88 (oMF (rs := [.mp 8 0 0, .mp 7 0 0]) rfl rfl) <| sq z88 (oCa (xs := [.v false [.im 2 _], .fn 186 [.mp 8 0 0, .mp 7 0 0]]) (vs := [(false, [.im 0 _])]) (v := .v false [.im 0 _]) (L_slices_ContainsFunc_impl_Coat_impl_Coat_186 hx33) (.inl rfl) rfl kF185_24_287 rfl (ppC rfl (ppC rfl pp0)) rfl rfl pb0 rfl rfl rfl) <| sq z88 (oAsI rfl rfl) <| nl) ?_
        refine Unw.seq ?_
        by_cases hc5 : x33 = true
        · rw [if_pos hc5] at h
          refine Go.condT rfl (Iff.rfl.2 hc5) ?_
          refine Go.seq ?_
          refine Go.r0 c88 rfl rfl (sq z88 (oAsI rfl rfl) <| nl) ?_
          refine Unw.seq ?_
          refine Go.ret (Unw.ret ?_)
          cases h
          exact Fin_ret (fin_of rfl rF88 rfl (by kernel_rfl))
        · rw [if_neg hc5] at h
          refine Go.condF rfl (byF Iff.rfl hc5) ?_
          refine Go.skip ?_
          refine Unw.blk ?_
          refine Unw.seq ?_
          refine Go.seq ?_
          refine Go.r0 c88 rfl rfl (sq z88 (oAsI rfl rfl) <| nl) ?_
          refine Unw.seq ?_
          refine Go.ret (Unw.ret ?_)
          cases h
          exact Fin_ret (fin_of rfl rF88 rfl (by kernel_rfl))
  · rw [if_neg hc1] at h
    refine Go.condT rfl (nT (byF Iff.rfl hc1)) ?_
    refine Go.seq ?_
    refine Go.r0 c88 rfl rfl (sq z88 (oAsI rfl rfl) <| nl) ?_
    refine Unw.seq ?_
    refine Go.ret (Unw.ret ?_)
    cases h
    exact Fin_ret (fin_of rfl rF88 rfl (by kernel_rfl))
theorem L_impl_nextOpen {time_0 : Int} {open_1 : Int} {end_2 : Int} {work_3 : Int} {r : Int} (h : impl_nextOpen time_0 open_1 end_2 work_3 = some r) : FL Try.prog cfg 89 [.im 2 false [.sc (.int .i64 time_0)], .im 2 false [.sc (.int .i64 open_1)], .im 2 false [.sc (.int .i64 end_2)], .im 2 false [.sc (.int .i64 work_3)]] = some ([(false, [.im 0 (.sc (.int .i64 r))])], []) := by
  unfold impl_nextOpen at h
  refine FL_goS (A := [(0, .v false [.im 2 (.sc (.int .i64 time_0))]), (1, .v false [.im 2 (.sc (.int .i64 open_1))]), (2, .v false [.im 2 (.sc (.int .i64 end_2))]), (3, .v false [.im 2 (.sc (.int .i64 work_3))])]) (B := [(0, none), (1, none), (2, none), (3, none)]) (nt := 34) rfl rfl Try.func89 rfl rfl rfl rfl ?_
  refine Go.seq ?_
  refine Go.r0 c89 rfl rfl (sq z89 (oAsI rfl rfl) <| nl) ?_
  refine Unw.seq ?_
  refine Go.seq ?_
  obtain ⟨x12, hx12, h⟩ := bs h
  obtain ⟨x15, hx15, h⟩ := bs h
  refine Go.r0 c89 rfl rfl (sq z89 (oMv rfl rfl) <| sq z89 (oQuo rfl hx12 rfl rfl) <| sq z89 (oBi rfl rfl rfl rfl) <| sq z89 (oMv rfl rfl) <| sq z89 (oRem rfl hx15 rfl rfl) <| sq z89 (oAsI rfl rfl) <| sq z89 (oAsI rfl rfl) <| nl) ?_
  refine Unw.seq ?_
  refine Go.seq ?_
  refine Go.block ?_
  refine Go.seq ?_
  refine Go.r0 c89 rfl rfl (sq z89 (oMv rfl rfl) <| sq z89 (oMv rfl rfl) <| sq z89 (oBi rfl rfl rfl rfl) <| sq z89 (oAsI rfl rfl) <| nl) ?_
  refine Unw.seq ?_
  by_cases hc1 : x15 ≤ open_1
  · rw [if_pos hc1] at h
    refine Go.condT rfl (iDec.2 hc1) ?_
    refine Go.seq ?_
    refine Go.r0 c89 rfl rfl (sq z89 (oMv rfl rfl) <| sq z89 (oMv rfl rfl) <| sq z89 (oBi rfl rfl rfl rfl) <| sq z89 (oAsI rfl rfl) <| nl) ?_
    refine Unw.seq ?_
    refine Go.ret (Unw.ret ?_)
    cases h
    exact Fin_ret (fin_of rfl rF89 rfl (by kernel_rfl))
  · rw [if_neg hc1] at h
    refine Go.condF rfl (byF iDec hc1) ?_
    refine Go.seq ?_
    refine Go.r0 c89 rfl rfl (sq z89 (oMv rfl rfl) <| sq z89 (oMv rfl rfl) <| sq z89 (oBi rfl rfl rfl rfl) <| sq z89 (oMv rfl rfl) <| sq z89 (oBi rfl rfl rfl rfl) <| sq z89 (oAsI rfl rfl) <| nl) ?_
    refine Unw.seq ?_
    by_cases hc2 : (w64 (x15 + work_3)) ≤ end_2
    · rw [if_pos hc2] at h
      refine Go.condT rfl (iDec.2 hc2) ?_
      refine Go.seq ?_
      refine Go.r0 c89 rfl rfl (sq z89 (oMv rfl rfl) <| sq z89 (oAsI rfl rfl) <| nl) ?_
      refine Unw.seq ?_
      refine Go.ret (Unw.ret ?_)
      cases h
      exact Fin_ret (fin_of rfl rF89 rfl (by kernel_rfl))
    · rw [if_neg hc2] at h
      refine Go.condF rfl (byF iDec hc2) ?_
      refine Go.skip ?_
      refine Unw.blk ?_
      refine Unw.seq ?_
      refine Go.seq ?_
      refine Go.r0 c89 rfl rfl (sq z89 (oMv rfl rfl) <| sq z89 (oBi rfl rfl rfl rfl) <| sq z89 (oMv rfl rfl) <| sq z89 (oBi rfl rfl rfl rfl) <| sq z89 (oAsI rfl rfl) <| nl) ?_
      refine Unw.seq ?_
      refine Go.ret (Unw.ret ?_)
      cases h
      exact Fin_ret (fin_of rfl rF89 rfl (by kernel_rfl))
theorem L_impl_EarlyPlan {list_0 : (List S_Coat)} {start_1 : Int} {open_2 : Int} {end_3 : Int} {r : ((List Int) × Int)} (h : impl_EarlyPlan list_0 start_1 open_2 end_3 = some r) : FL Try.prog cfg 16 [.im 2 false [.row 4 (List.map e_S_Coat list_0)], .im 2 false [.sc (.int .i64 start_1)], .im 2 false [.sc (.int .i64 open_2)], .im 2 false [.sc (.int .i64 end_3)]] = some ([(false, [.ow 0 1 (List.map eI r.1)]), (false, [.im 0 (.sc (.int .i64 r.2))])], []) := by
  unfold impl_EarlyPlan at h
  refine FL_goS (A := [(0, .v false [.im 2 (.row 4 (List.map e_S_Coat list_0))]), (1, .v false [.im 2 (.sc (.int .i64 start_1))]), (2, .v false [.im 2 (.sc (.int .i64 open_2))]), (3, .v false [.im 2 (.sc (.int .i64 end_3))])]) (B := [(0, none), (1, none), (2, none), (3, none)]) (nt := 66) rfl rfl Try.func16 rfl rfl rfl rfl ?_
  refine Go.seq ?_
  refine Go.r0 c16 rfl rfl (sq z16 (oAsN rfl rfl eF27) <| sq z16 (oAsI rfl rfl) <| nl) ?_
  refine Unw.seq ?_
  refine Go.seq ?_
  refine Go.seq ?_
  obtain ⟨x21, hx21, h⟩ := bs h
  refine Go.r0 c16 rfl rfl (sq z16 (oMv rfl rfl) <| sq z16 (oMv rfl rfl) <| sq z16 (oMv rfl rfl) <| sq z16 (oMv rfl rfl) <| sq z16 (oCa (xs := [.v false [.im 2 _], .v false [.im 2 _], .v false [.im 2 _], .v false [.im 2 _], .v false [.im 0 _]]) (vs := [(false, [.im 0 _])]) (v := .v false [.im 0 _]) (L_impl_coatsCode hx21) (.inl rfl) rfl kF88_24_2_2_2_2 rfl (ppC rfl (ppC rfl (ppC rfl (ppC rfl (ppC rfl pp0))))) rfl rfl pb0 rfl rfl rfl) <| sq z16 (oAsI rfl rfl) <| nl) ?_
  refine Unw.seq ?_
  refine Go.seq ?_
  refine Go.r0 c16 rfl rfl (sq z16 (oMv rfl rfl) <| sq z16 (oBi rfl rfl rfl rfl) <| nl) ?_
  refine Unw.seq ?_
  by_cases hc1 : x21 ≠ 0
  · rw [if_pos hc1] at h
    refine Go.condT rfl (iNe.2 hc1) ?_
    refine Go.seq ?_
    refine Go.r0 c16 rfl rfl (sq z16 (oMv rfl rfl) <| sq z16 (oAsN rfl rfl eF27) <| sq z16 (oAsI rfl rfl) <| nl) ?_
    refine Unw.seq ?_
    refine Go.ret (Unw.ret ?_)
    cases h
    exact Fin_ret (fin_of rfl rF16 rfl (by kernel_rfl))
  · rw [if_neg hc1] at h
    refine Go.condF rfl (byF iNe hc1) ?_
    refine Go.skip ?_
    refine Unw.seq ?_
    refine Go.seq ?_
    refine Go.r0 c16 rfl rfl (sq z16 (oBS (es := List.map eI ([] : List Int)) rfl sF27 rfl pt0 (flat0 rfl fun _ => rfl)) <| sq z16 (oMv rfl rfl) <| sq z16 (oAsO rfl rfl rfl rfl rfl) <| sq z16 (oAsI rfl rfl) <| sq z16 (oAsI rfl rfl) <| nl) ?_
    refine Unw.seq ?_
    refine Go.seq ?_
    refine Go.seq ?_
    refine Go.r0 c16 rfl rfl (sq z16 (oMv rfl rfl) <| sq z16 (oLnI rfl rfl uF24 rfl) <| sq z16 (oMv rfl rfl) <| nl) ?_
    refine Unw.seq ?_
    refine Go.block ?_
    obtain ⟨o, hl, h⟩ := bs h
    refine Go.lp c16 rfl _ (fun (s : (Int × Int × Int × (List Int))) => match s with | (least_12_l6, latest_13_l6, t_29_l6, out_o11_l6) => mk [(2, iv open_2), (3, iv end_3), (11, .v false [.own 11 0 0]), (12, iv least_12_l6), (13, iv latest_13_l6), (27, .v false [.im 2 (.row 4 (List.map e_S_Coat list_0))]), (28, iv (list_0.length : Int)), (29, iv t_29_l6)] [(11, some ⟨0, 0, false, false, false, false, [⟨.sh, 0, 0, .row 1 (List.map eI out_o11_l6)⟩]⟩)]) (fun (o : ((List Int) ⊕ ((List Int) × Int))) (p : Ex × St) => match o with | (.inl out_o11_e0_6) => p.1 = .exit 0 ∧ p.2.norm ([11], [11]) = mk [(11, .v false [.own 11 0 0])] [(11, some ⟨0, 0, false, false, false, false, [⟨.sh, 0, 0, .row 1 (List.map eI out_o11_e0_6)⟩]⟩)] | (.inr r2) => p.1 = .ret ∧ fin Try.prog cfg 16 Try.f16 [.im 2 false [.row 4 (List.map e_S_Coat list_0)], .im 2 false [.sc (.int .i64 start_1)], .im 2 false [.sc (.int .i64 open_2)], .im 2 false [.sc (.int .i64 end_3)]] p.2 = some ([(false, [.ow 0 1 (List.map eI r2.1)]), (false, [.im 0 (.sc (.int .i64 r2.2))])], [])) hl (by kernel_rfl) ?_ ?_ ?_
    · intro o p hp e
      rcases o with out_o11_e0_6 | r2 <;> exact nomatch (hp.1.symm.trans e)
    · rintro ⟨least_12_l6, latest_13_l6, t_29_l6, out_o11_l6⟩ o h
      unfold impl_EarlyPlan_l6 at h
      dsimp only at h
      refine Go.seq ?_
      refine Go.r0 c16 rfl rfl (sq z16 (oBi rfl rfl rfl rfl) <| nl) ?_
      refine Unw.seq ?_
      refine Go.seq ?_
      by_cases hc8 : t_29_l6 < (list_0.length : Int)
      · rw [if_pos hc8] at h
        refine Go.condT rfl (iDec.2 hc8) ?_
        refine Go.skip ?_
        refine Unw.seq ?_
        refine Go.seq ?_
        refine Go.block ?_
        refine Go.seq ?_
        obtain ⟨x31, hx31, h⟩ := bs h
        refine Go.r0 c16 rfl rfl (sq z16 (oIAI rfl hx31 sF24 rfl rfl) <| sq z16 (oLd (cs := [.im 2 _, .im 2 _, .im 2 _, .im 2 _]) rfl tF128 rfl rfl) <| sq z16 (oAl rfl tF128 (tkI (tkI (tkI (tkI tk0))))) <| sq z16 (oSt tF128 rfl rfl rfl (tkI (tkI (tkI (tkI tk0)))) rfl rfl rfl) <| nl) ?_
        refine Unw.seq ?_
        refine Go.seq ?_
        obtain ⟨x38, hx38, h⟩ := bs h
        refine Go.r1 c16 rfl rfl (st1 := mk [(2, iv open_2), (3, iv end_3), (11, .v false [.own 11 0 0]), (12, iv least_12_l6), (13, iv latest_13_l6), (15, .v false [.mp 15 0 0]), (27, .v false [.im 2 (.row 4 (List.map e_S_Coat list_0))]), (28, iv (list_0.length : Int)), (29, iv t_29_l6)] [(11, some ⟨0, 0, false, false, false, false, [⟨.sh, 0, 0, .row 1 (List.map eI out_o11_l6)⟩]⟩), (15, some ⟨0, 0, false, true, false, true, [⟨.imm, 0, 0, .sc (.string x31.Name)⟩, ⟨.imm, 0, 0, .sc (.int .i64 x31.Work)⟩, ⟨.imm, 0, 0, .sc (.int .i64 x31.Dry)⟩, ⟨.imm, 0, 0, .sc (.int .i64 x31.Wait)⟩]⟩)]) (by kernel_rfl) (sq z16 (oMv rfl rfl) <| sq z16 (oMv rfl rfl) <| sq z16 (oMv rfl rfl) <| sq z16 (oFA (r' := .mp 15 0 1) rfl fF128_1 rfl rfl) <| sq z16 (oLd (cs := [.im 0 _]) rfl tF2 rfl rfl) <| sq z16 (oCa (xs := [.v false [.im 0 _], .v false [.im 0 _], .v false [.im 0 _], .v false [.im 0 _]]) (vs := [(false, [.im 0 _])]) (v := .v false [.im 0 _]) (L_impl_nextOpen hx38) (.inl rfl) rfl kF89_2_2_2_2 rfl (ppC rfl (ppC rfl (ppC rfl (ppC rfl pp0)))) rfl rfl pb0 rfl rfl rfl) <| sq z16 (oAsI rfl rfl) <| nl) ?_
        refine Unw.seq ?_
        refine Go.seq ?_
        refine Go.seq ?_
        refine Go.rX c16 rfl rfl rfl (mk [(2, iv open_2), (3, iv end_3), (11, .v false [.own 11 0 0]), (15, .v false [.mp 15 0 0]), (16, iv x38), (27, .v false [.im 2 (.row 4 (List.map e_S_Coat list_0))]), (28, iv (list_0.length : Int)), (29, iv t_29_l6), (45, bv ((decide (latest_13_l6 ≥ 0)) && (decide (x38 > latest_13_l6))))] [(11, some ⟨0, 0, false, false, false, false, [⟨.sh, 0, 0, .row 1 (List.map eI out_o11_l6)⟩]⟩), (15, some ⟨0, 0, false, true, false, true, [⟨.imm, 0, 0, .sc (.string x31.Name)⟩, ⟨.imm, 0, 0, .sc (.int .i64 x31.Work)⟩, ⟨.imm, 0, 0, .sc (.int .i64 x31.Dry)⟩, ⟨.imm, 0, 0, .sc (.int .i64 x31.Wait)⟩]⟩)]) ?_ ?_
        · by_cases hc9 : latest_13_l6 ≥ 0
          · exact ⟨_, sq z16 (oMv rfl rfl) <| sq z16 (oBi rfl rfl rfl rfl) <| sq z16 (oMv rfl rfl) <| sgT z16 rfl rfl (iDec.2 hc9) (oMv rfl rfl) <| sgT z16 rfl rfl (iDec.2 hc9) (oMv rfl rfl) <| sgT z16 rfl rfl (iDec.2 hc9) (oBi rfl rfl rfl rfl) <| sq z16 (oPkT rfl rfl (iDec.2 hc9) rfl) <| nl, (Eq.trans (b := (fun t_45_m9 : Bool => mk [(2, iv open_2), (3, iv end_3), (11, .v false [.own 11 0 0]), (15, .v false [.mp 15 0 0]), (16, iv x38), (27, .v false [.im 2 (.row 4 (List.map e_S_Coat list_0))]), (28, iv (list_0.length : Int)), (29, iv t_29_l6), (45, bv t_45_m9)] [(11, some ⟨0, 0, false, false, false, false, [⟨.sh, 0, 0, .row 1 (List.map eI out_o11_l6)⟩]⟩), (15, some ⟨0, 0, false, true, false, true, [⟨.imm, 0, 0, .sc (.string x31.Name)⟩, ⟨.imm, 0, 0, .sc (.int .i64 x31.Work)⟩, ⟨.imm, 0, 0, .sc (.int .i64 x31.Dry)⟩, ⟨.imm, 0, 0, .sc (.int .i64 x31.Wait)⟩]⟩)]) (decide (x38 > latest_13_l6))) (by kernel_rfl) (congrArg (fun t_45_m9 : Bool => mk [(2, iv open_2), (3, iv end_3), (11, .v false [.own 11 0 0]), (15, .v false [.mp 15 0 0]), (16, iv x38), (27, .v false [.im 2 (.row 4 (List.map e_S_Coat list_0))]), (28, iv (list_0.length : Int)), (29, iv t_29_l6), (45, bv t_45_m9)] [(11, some ⟨0, 0, false, false, false, false, [⟨.sh, 0, 0, .row 1 (List.map eI out_o11_l6)⟩]⟩), (15, some ⟨0, 0, false, true, false, true, [⟨.imm, 0, 0, .sc (.string x31.Name)⟩, ⟨.imm, 0, 0, .sc (.int .i64 x31.Work)⟩, ⟨.imm, 0, 0, .sc (.int .i64 x31.Dry)⟩, ⟨.imm, 0, 0, .sc (.int .i64 x31.Wait)⟩]⟩)]) (by first | rfl | (simp [(iDec.2 hc9)]; done) | (simp [(iDec.2 hc9)]; omega))))⟩
          · exact ⟨_, sq z16 (oMv rfl rfl) <| sq z16 (oBi rfl rfl rfl rfl) <| sq z16 (oMv rfl rfl) <| sgF rfl rfl (byF iDec hc9) rfl <| sgF rfl rfl (byF iDec hc9) rfl <| sgF rfl rfl (byF iDec hc9) rfl <| sq z16 (oPkF rfl rfl (byF iDec hc9) rfl) <| nl, (Eq.trans (b := (fun t_45_m9 : Bool => mk [(2, iv open_2), (3, iv end_3), (11, .v false [.own 11 0 0]), (15, .v false [.mp 15 0 0]), (16, iv x38), (27, .v false [.im 2 (.row 4 (List.map e_S_Coat list_0))]), (28, iv (list_0.length : Int)), (29, iv t_29_l6), (45, bv t_45_m9)] [(11, some ⟨0, 0, false, false, false, false, [⟨.sh, 0, 0, .row 1 (List.map eI out_o11_l6)⟩]⟩), (15, some ⟨0, 0, false, true, false, true, [⟨.imm, 0, 0, .sc (.string x31.Name)⟩, ⟨.imm, 0, 0, .sc (.int .i64 x31.Work)⟩, ⟨.imm, 0, 0, .sc (.int .i64 x31.Dry)⟩, ⟨.imm, 0, 0, .sc (.int .i64 x31.Wait)⟩]⟩)]) false) (by kernel_rfl) (congrArg (fun t_45_m9 : Bool => mk [(2, iv open_2), (3, iv end_3), (11, .v false [.own 11 0 0]), (15, .v false [.mp 15 0 0]), (16, iv x38), (27, .v false [.im 2 (.row 4 (List.map e_S_Coat list_0))]), (28, iv (list_0.length : Int)), (29, iv t_29_l6), (45, bv t_45_m9)] [(11, some ⟨0, 0, false, false, false, false, [⟨.sh, 0, 0, .row 1 (List.map eI out_o11_l6)⟩]⟩), (15, some ⟨0, 0, false, true, false, true, [⟨.imm, 0, 0, .sc (.string x31.Name)⟩, ⟨.imm, 0, 0, .sc (.int .i64 x31.Work)⟩, ⟨.imm, 0, 0, .sc (.int .i64 x31.Dry)⟩, ⟨.imm, 0, 0, .sc (.int .i64 x31.Wait)⟩]⟩)]) (by first | rfl | (simp [(byF iDec hc9)]; done) | (simp [(byF iDec hc9)]; omega))))⟩
        · refine Unw.seq ?_
          by_cases hc10 : (latest_13_l6 ≥ 0 ∧ x38 > latest_13_l6)
          · rw [if_pos hc10] at h
            refine Go.condT rfl ((iAnd iDec iDec).2 hc10) ?_
            refine Go.seq ?_
            refine Go.r0 c16 rfl rfl (sq z16 (oAsN rfl rfl eF27) <| sq z16 (oAsI rfl rfl) <| nl) ?_
            refine Unw.seq ?_
            refine Go.ret (Unw.ret ?_)
            cases h
            exact ⟨rfl, (fin_of rfl rF16 rfl (by kernel_rfl))⟩
          · rw [if_neg hc10] at h
            refine Go.condF rfl (byF (iAnd iDec iDec) hc10) ?_
            refine Go.skip ?_
            refine Unw.seq ?_
            refine Go.seq ?_
            obtain ⟨x49, hx49, h⟩ := bs h
            refine Go.r0 c16 rfl rfl (sq z16 (oMv rfl rfl) <| sq z16 (oMv rfl rfl) <| sq z16 (oBS (es := List.map eI ([x38] : List Int)) rfl sF27 rfl (ptC rfl (fxI fx0) rfl pt0) (flat0 rfl fun _ => rfl)) <| sq z16 (oApO (en := eI) (M := ([x38] : List Int)) rfl hx49 rfl sF27 rfl rfl uF27 (.inl ⟨_, rfl⟩) rfl rfl rfl rfl (el_own rfl rfl) (flat0 rfl fun _ => rfl)) <| sq z16 (oAsO rfl rfl rfl rfl rfl) <| nl) ?_
            refine Unw.seq ?_
            refine Go.dr c16 rfl rfl rfl rfl (mk [(2, iv open_2), (3, iv end_3), (11, .v false [.own 11 0 0]), (12, iv (w64 ((w64 (x38 + x31.Work)) + x31.Dry))), (13, iv (w64 ((w64 (x38 + x31.Work)) + x31.Wait))), (27, .v false [.im 2 (.row 4 (List.map e_S_Coat list_0))]), (28, iv (list_0.length : Int)), (29, iv t_29_l6)] [(11, some ⟨0, 0, false, false, false, false, [⟨.sh, 0, 0, .row 1 (List.map eI x49)⟩]⟩)]) (sT rfl (dN z16 rfl (oMv rfl rfl)) <| sT rfl (dN z16 rfl (oFA (r' := .mp 15 0 1) rfl fF128_1 rfl rfl)) <| sT rfl (dN z16 rfl (oLd (cs := [.im 0 _]) rfl tF2 rfl rfl)) <| sT rfl (dN z16 rfl (oBi rfl rfl rfl rfl)) <| sT rfl (dN z16 rfl (oFA (r' := .mp 15 0 2) rfl fF128_2 rfl rfl)) <| sT rfl (dN z16 rfl (oLd (cs := [.im 0 _]) rfl tF2 rfl rfl)) <| sT rfl (dN z16 rfl (oBi rfl rfl rfl rfl)) <| sT rfl (dN z16 rfl (oMv rfl rfl)) <| sK (O := [15]) rfl rfl rfl (dN z16 rfl (oFA (r' := .mp 15 0 1) rfl fF128_1 rfl rfl)) <| sK (O := [15]) rfl rfl rfl (dN z16 rfl (oLd (cs := [.im 0 _]) rfl tF2 rfl rfl)) <| sT rfl (dN z16 rfl (oBi rfl rfl rfl rfl)) <| sK (O := [15]) rfl rfl rfl (dN z16 rfl (oFA (r' := .mp 15 0 3) rfl fF128_3 rfl rfl)) <| sK (O := [15]) rfl rfl rfl (dN z16 rfl (oLd (cs := [.im 0 _]) rfl tF2 rfl rfl)) <| sT rfl (dN z16 rfl (oBi rfl rfl rfl rfl)) <| sS (dN z16 rfl (oAsI rfl rfl)) (kY ⟨rfl, trivial⟩ (kY ⟨rfl, trivial⟩ (kY ⟨rfl, trivial⟩ (kY ⟨rfl, trivial⟩ trivial)))) (sS (dN z16 rfl (oAsI rfl rfl)) (kN rfl (kN rfl (kN rfl (kN rfl trivial)))) (sD (by kernel_rfl)))) ?_
            refine Unw.blk ?_
            refine Unw.seq ?_
            refine Go.r0 c16 rfl rfl (sq z16 (oBi rfl rfl rfl rfl) <| sq z16 (oMv rfl rfl) <| nl) ?_
            refine Unw.nil ?_
            cases h
            exact ⟨rfl, (by kernel_rfl)⟩
      · rw [if_neg hc8] at h
        refine Go.condF rfl (byF iDec hc8) ?_
        refine Go.exit ?_
        refine Unw.seqx ?_
        refine Unw.nil ?_
        cases h
        exact ⟨rfl, (by kernel_rfl)⟩
    · rintro ⟨e, st⟩ hp
      rcases o with out_o11_e0_6 | r2
      · dsimp only at h
        obtain ⟨he, hst⟩ := hp
        obtain rfl : e = .exit 0 := he
        refine Unw.blkx ?_
        refine Unw.seq ?_
        refine Go.seq ?_
        refine Go.r1 c16 rfl rfl hst (sq z16 (oMv rfl rfl) <| sq z16 (oAsO rfl rfl rfl rfl rfl) <| sq z16 (oAsI rfl rfl) <| nl) ?_
        refine Unw.seq ?_
        refine Go.ret (Unw.ret ?_)
        cases h
        exact Fin_ret (fin_of rfl rF16 rfl (by kernel_rfl))
      · dsimp only at h
        obtain ⟨he, hfin⟩ := hp
        obtain rfl : e = .ret := he
        cases h
        exact Unw.ret (Fin_ret hfin)
theorem L_impl_inHours {time_0 : Int} {open_1 : Int} {end_2 : Int} {work_3 : Int} {r : Bool} (h : impl_inHours time_0 open_1 end_2 work_3 = some r) : FL Try.prog cfg 94 [.im 2 false [.sc (.int .i64 time_0)], .im 2 false [.sc (.int .i64 open_1)], .im 2 false [.sc (.int .i64 end_2)], .im 2 false [.sc (.int .i64 work_3)]] = some ([(false, [.im 0 (.sc (.bool r))])], []) := by
  unfold impl_inHours at h
  refine FL_goS (A := [(0, .v false [.im 2 (.sc (.int .i64 time_0))]), (1, .v false [.im 2 (.sc (.int .i64 open_1))]), (2, .v false [.im 2 (.sc (.int .i64 end_2))]), (3, .v false [.im 2 (.sc (.int .i64 work_3))])]) (B := [(0, none), (1, none), (2, none), (3, none)]) (nt := 21) rfl rfl Try.func94 rfl rfl rfl rfl ?_
  refine Go.seq ?_
  refine Go.r0 c94 rfl rfl (sq z94 (oAsI rfl rfl) <| nl) ?_
  refine Unw.seq ?_
  refine Go.seq ?_
  obtain ⟨x10, hx10, h⟩ := bs h
  obtain ⟨t_8_m1, hm2, h⟩ := bs h
  refine Go.rX c94 rfl rfl rfl (mk [(8, bv t_8_m1)] []) ?_ ?_
  · by_cases hc1 : x10 ≥ open_1
    · rw [if_pos hc1] at hm2
      obtain ⟨x15, hx15, hm2⟩ := bs hm2
      cases hm2
      exact ⟨_, sq z94 (oMv rfl rfl) <| sq z94 (oRem rfl hx10 rfl rfl) <| sq z94 (oMv rfl rfl) <| sq z94 (oBi rfl rfl rfl rfl) <| sq z94 (oMv rfl rfl) <| sgT z94 rfl rfl (iDec.2 hc1) (oMv rfl rfl) <| sgT z94 rfl rfl (iDec.2 hc1) (oRem rfl hx15 rfl rfl) <| sgT z94 rfl rfl (iDec.2 hc1) (oMv rfl rfl) <| sgT z94 rfl rfl (iDec.2 hc1) (oBi rfl rfl rfl rfl) <| sgT z94 rfl rfl (iDec.2 hc1) (oMv rfl rfl) <| sgT z94 rfl rfl (iDec.2 hc1) (oBi rfl rfl rfl rfl) <| sq z94 (oPkT rfl rfl (iDec.2 hc1) rfl) <| sq z94 (oAsI rfl rfl) <| nl, (by kernel_rfl)⟩
    · rw [if_neg hc1] at hm2
      cases hm2
      exact ⟨_, sq z94 (oMv rfl rfl) <| sq z94 (oRem rfl hx10 rfl rfl) <| sq z94 (oMv rfl rfl) <| sq z94 (oBi rfl rfl rfl rfl) <| sq z94 (oMv rfl rfl) <| sgF rfl rfl (byF iDec hc1) rfl <| sgF rfl rfl (byF iDec hc1) rfl <| sgF rfl rfl (byF iDec hc1) rfl <| sgF rfl rfl (byF iDec hc1) rfl <| sgF rfl rfl (byF iDec hc1) rfl <| sgF rfl rfl (byF iDec hc1) rfl <| sq z94 (oPkF rfl rfl (byF iDec hc1) rfl) <| sq z94 (oAsI rfl rfl) <| nl, (by kernel_rfl)⟩
  · refine Unw.seq ?_
    refine Go.ret (Unw.ret ?_)
    cases h
    exact Fin_ret (fin_of rfl rF94 rfl (by kernel_rfl))
theorem L_impl_coatSearch_run_F {self : (S_coatSearch × (List Int) × Int × Int) → Option ((List Int) × Int × S_coatSearch)} (ih : ∀ {s_0 : S_coatSearch} {begins_1 : (List Int)} {least_2 : Int} {latest_3 : Int} {r : ((List Int) × Int × S_coatSearch)}, self (s_0, begins_1, least_2, latest_3) = some r → FL Try.prog cfg 90 [.ptr true [(.imm, .row 4 (List.map e_S_Coat s_0.list)), (.imm, .sc (.int .i64 s_0.open_)), (.imm, .sc (.int .i64 s_0.end_)), (.imm, .sc (.int .i64 s_0.left))], .mv 1 (List.map eI begins_1), .im 2 false [.sc (.int .i64 least_2)], .im 2 false [.sc (.int .i64 latest_3)]] = some ([(false, [.ow 0 1 (List.map eI r.1)]), (false, [.im 0 (.sc (.int .i64 r.2.1))])], [.ptr true [(.imm, .row 4 (List.map e_S_Coat r.2.2.list)), (.imm, .sc (.int .i64 r.2.2.open_)), (.imm, .sc (.int .i64 r.2.2.end_)), (.imm, .sc (.int .i64 r.2.2.left))]])) {s_0 : S_coatSearch} {begins_1 : (List Int)} {least_2 : Int} {latest_3 : Int} {r : ((List Int) × Int × S_coatSearch)} (h : impl_coatSearch_run_F self s_0 begins_1 least_2 latest_3 = some r) : FL Try.prog cfg 90 [.ptr true [(.imm, .row 4 (List.map e_S_Coat s_0.list)), (.imm, .sc (.int .i64 s_0.open_)), (.imm, .sc (.int .i64 s_0.end_)), (.imm, .sc (.int .i64 s_0.left))], .mv 1 (List.map eI begins_1), .im 2 false [.sc (.int .i64 least_2)], .im 2 false [.sc (.int .i64 latest_3)]] = some ([(false, [.ow 0 1 (List.map eI r.1)]), (false, [.im 0 (.sc (.int .i64 r.2.1))])], [.ptr true [(.imm, .row 4 (List.map e_S_Coat r.2.2.list)), (.imm, .sc (.int .i64 r.2.2.open_)), (.imm, .sc (.int .i64 r.2.2.end_)), (.imm, .sc (.int .i64 r.2.2.left))]]) := by
  unfold impl_coatSearch_run_F at h
  refine FL_goS (A := [(0, .v false [.mp 0 0 0]), (1, .v false [.own 1 0 0]), (2, .v false [.im 2 (.sc (.int .i64 least_2))]), (3, .v false [.im 2 (.sc (.int .i64 latest_3))])]) (B := [(0, some ⟨0, 0, true, true, false, true, [⟨.imm, 0, 1, .row 4 (List.map e_S_Coat s_0.list)⟩, ⟨.imm, 0, 0, .sc (.int .i64 s_0.open_)⟩, ⟨.imm, 0, 0, .sc (.int .i64 s_0.end_)⟩, ⟨.imm, 0, 0, .sc (.int .i64 s_0.left)⟩]⟩), (1, some ⟨0, 0, false, false, false, false, [⟨.sh, 0, 0, .row 1 (List.map eI begins_1)⟩]⟩), (2, none), (3, none)]) (nt := 90) rfl rfl Try.func90 rfl rfl rfl rfl ?_
  refine Go.seq ?_
  refine Go.r0 c90 rfl rfl (sq z90 (oAsN rfl rfl eF27) <| sq z90 (oAsI rfl rfl) <| nl) ?_
  refine Unw.seq ?_
  refine Go.seq ?_
  refine Go.seq ?_
  refine Go.r0 c90 rfl rfl (sq z90 (oMv rfl rfl) <| sq z90 (oLnO rfl rfl uF27 rfl rfl rfl (fun e => nomatch e)) <| sq z90 (oMv rfl rfl) <| sq z90 (oNl rfl rfl rfl) <| sq z90 (oFA (r' := .mp 0 0 0) rfl fF132_0 rfl rfl) <| sq z90 (oLd (cs := [.im 1 _]) rfl tF24 rfl rfl) <| sq z90 (oLnI rfl rfl uF24 rfl) <| sq z90 (oBi rfl rfl rfl rfl) <| nl) ?_
  refine Unw.seq ?_
  by_cases hc1 : (begins_1.length : Int) = (s_0.list.length : Int)
  · rw [if_pos hc1] at h
    refine Go.condT rfl (iEq.2 hc1) ?_
    refine Go.seq ?_
    refine Go.r0 c90 rfl rfl (sq z90 (oMv rfl rfl) <| sq z90 (oAsO rfl rfl rfl rfl rfl) <| sq z90 (oAsI rfl rfl) <| nl) ?_
    refine Unw.seq ?_
    refine Go.ret (Unw.ret ?_)
    cases h
    exact Fin_ret (fin_of rfl rF90 rfl (by kernel_rfl))
  · rw [if_neg hc1] at h
    refine Go.condF rfl (byF iEq hc1) ?_
    refine Go.skip ?_
    refine Unw.seq ?_
    refine Go.seq ?_
    obtain ⟨x29, hx29, h⟩ := bs h
    refine Go.r0 c90 rfl rfl (sq z90 (oMv rfl rfl) <| sq z90 (oNl rfl rfl rfl) <| sq z90 (oFA (r' := .mp 0 0 0) rfl fF132_0 rfl rfl) <| sq z90 (oLd (cs := [.im 1 _]) rfl tF24 rfl rfl) <| sq z90 (oMv rfl rfl) <| sq z90 (oLnO rfl rfl uF27 rfl rfl rfl (fun e => nomatch e)) <| sq z90 (oIAI rfl hx29 sF24 rfl rfl) <| sq z90 (oLd (cs := [.im 1 _, .im 1 _, .im 1 _, .im 1 _]) rfl tF128 rfl rfl) <| sq z90 (oAl rfl tF128 (tkI (tkI (tkI (tkI tk0))))) <| sq z90 (oSt tF128 rfl rfl rfl (tkI (tkI (tkI (tkI tk0)))) rfl rfl rfl) <| nl) ?_
    refine Unw.seq ?_
    refine Go.seq ?_
    refine Go.seq ?_
    refine Go.r1 c90 rfl rfl (st1 := mk [(0, .v false [.mp 0 0 0]), (1, .v false [.own 1 0 0]), (2, iv least_2), (3, iv latest_3), (10, .v false [.mp 10 0 0])] [(0, some ⟨0, 0, true, true, false, true, [⟨.imm, 0, 1, .row 4 (List.map e_S_Coat s_0.list)⟩, ⟨.imm, 0, 0, .sc (.int .i64 s_0.open_)⟩, ⟨.imm, 0, 0, .sc (.int .i64 s_0.end_)⟩, ⟨.imm, 0, 0, .sc (.int .i64 s_0.left)⟩]⟩), (1, some ⟨0, 0, false, false, false, false, [⟨.sh, 0, 0, .row 1 (List.map eI begins_1)⟩]⟩), (10, some ⟨0, 0, false, true, false, true, [⟨.imm, 0, 0, .sc (.string x29.Name)⟩, ⟨.imm, 0, 0, .sc (.int .i64 x29.Work)⟩, ⟨.imm, 0, 0, .sc (.int .i64 x29.Dry)⟩, ⟨.imm, 0, 0, .sc (.int .i64 x29.Wait)⟩]⟩)]) (by kernel_rfl) (sq z90 (oMv rfl rfl) <| sq z90 (oAsI rfl rfl) <| nl) ?_
    refine Unw.seq ?_
    refine Go.block ?_
    obtain ⟨o, hl, h⟩ := bs h
    refine Go.lp c90 rfl _ (fun (s : (Int × (List S_Coat) × Int × Int × Int)) => match s with | (begin_11_l5, s_o0_0_l5, s_o0_1_l5, s_o0_2_l5, s_o0_3_l5) => mk [(0, .v false [.mp 0 0 0]), (1, .v false [.own 1 0 0]), (3, iv latest_3), (10, .v false [.mp 10 0 0]), (11, iv begin_11_l5)] [(0, some ⟨0, 0, true, true, false, true, [⟨.imm, 0, 1, .row 4 (List.map e_S_Coat s_o0_0_l5)⟩, ⟨.imm, 0, 0, .sc (.int .i64 s_o0_1_l5)⟩, ⟨.imm, 0, 0, .sc (.int .i64 s_o0_2_l5)⟩, ⟨.imm, 0, 0, .sc (.int .i64 s_o0_3_l5)⟩]⟩), (1, some ⟨0, 0, false, false, false, false, [⟨.sh, 0, 0, .row 1 (List.map eI begins_1)⟩]⟩), (10, some ⟨0, 0, false, true, false, true, [⟨.imm, 0, 0, .sc (.string x29.Name)⟩, ⟨.imm, 0, 0, .sc (.int .i64 x29.Work)⟩, ⟨.imm, 0, 0, .sc (.int .i64 x29.Dry)⟩, ⟨.imm, 0, 0, .sc (.int .i64 x29.Wait)⟩]⟩)]) (fun (o : (((List S_Coat) × Int × Int × Int) ⊕ ((List Int) × Int × S_coatSearch))) (p : Ex × St) => match o with | (.inl (s_o0_0_e0_5, s_o0_1_e0_5, s_o0_2_e0_5, s_o0_3_e0_5)) => p.1 = .exit 0 ∧ p.2.norm ([], [0]) = mk [] [(0, some ⟨0, 0, true, true, false, true, [⟨.imm, 0, 1, .row 4 (List.map e_S_Coat s_o0_0_e0_5)⟩, ⟨.imm, 0, 0, .sc (.int .i64 s_o0_1_e0_5)⟩, ⟨.imm, 0, 0, .sc (.int .i64 s_o0_2_e0_5)⟩, ⟨.imm, 0, 0, .sc (.int .i64 s_o0_3_e0_5)⟩]⟩)] | (.inr r2) => p.1 = .ret ∧ fin Try.prog cfg 90 Try.f90 [.ptr true [(.imm, .row 4 (List.map e_S_Coat s_0.list)), (.imm, .sc (.int .i64 s_0.open_)), (.imm, .sc (.int .i64 s_0.end_)), (.imm, .sc (.int .i64 s_0.left))], .mv 1 (List.map eI begins_1), .im 2 false [.sc (.int .i64 least_2)], .im 2 false [.sc (.int .i64 latest_3)]] p.2 = some ([(false, [.ow 0 1 (List.map eI r2.1)]), (false, [.im 0 (.sc (.int .i64 r2.2.1))])], [.ptr true [(.imm, .row 4 (List.map e_S_Coat r2.2.2.list)), (.imm, .sc (.int .i64 r2.2.2.open_)), (.imm, .sc (.int .i64 r2.2.2.end_)), (.imm, .sc (.int .i64 r2.2.2.left))]])) hl (by kernel_rfl) ?_ ?_ ?_
    · intro o p hp e
      rcases o with ⟨s_o0_0_e0_5, s_o0_1_e0_5, s_o0_2_e0_5, s_o0_3_e0_5⟩ | r2 <;> exact nomatch (hp.1.symm.trans e)
    · rintro ⟨begin_11_l5, s_o0_0_l5, s_o0_1_l5, s_o0_2_l5, s_o0_3_l5⟩ o h
      unfold impl_coatSearch_run_l5 at h
      dsimp only at h
      refine Go.seq ?_
      refine Go.seq ?_
      refine Go.r0 c90 rfl rfl (sq z90 (oMv rfl rfl) <| sq z90 (oMv rfl rfl) <| sq z90 (oBi rfl rfl rfl rfl) <| nl) ?_
      refine Unw.seq ?_
      by_cases hc10 : begin_11_l5 ≤ latest_3
      · rw [if_pos hc10] at h
        refine Go.condT rfl (iDec.2 hc10) ?_
        refine Go.skip ?_
        refine Unw.seq ?_
        refine Go.seq ?_
        refine Go.join (fun st => ∃ s_o0_0_r6, ∃ s_o0_1_r6, ∃ s_o0_2_r6, ∃ s_o0_3_r6, impl_coatSearch_run_k6 self begin_11_l5 s_o0_0_r6 s_o0_1_r6 s_o0_2_r6 s_o0_3_r6 = some o ∧ st.norm ([0, 1, 3, 10, 11], [0, 1, 10]) = mk [(0, .v false [.mp 0 0 0]), (1, .v false [.own 1 0 0]), (3, iv latest_3), (10, .v false [.mp 10 0 0]), (11, iv begin_11_l5)] [(0, some ⟨0, 0, true, true, false, true, [⟨.imm, 0, 1, .row 4 (List.map e_S_Coat s_o0_0_r6)⟩, ⟨.imm, 0, 0, .sc (.int .i64 s_o0_1_r6)⟩, ⟨.imm, 0, 0, .sc (.int .i64 s_o0_2_r6)⟩, ⟨.imm, 0, 0, .sc (.int .i64 s_o0_3_r6)⟩]⟩), (1, some ⟨0, 0, false, false, false, false, [⟨.sh, 0, 0, .row 1 (List.map eI begins_1)⟩]⟩), (10, some ⟨0, 0, false, true, false, true, [⟨.imm, 0, 0, .sc (.string x29.Name)⟩, ⟨.imm, 0, 0, .sc (.int .i64 x29.Work)⟩, ⟨.imm, 0, 0, .sc (.int .i64 x29.Dry)⟩, ⟨.imm, 0, 0, .sc (.int .i64 x29.Wait)⟩]⟩)]) ?_ ?_
        · rintro st ⟨s_o0_0_r6, s_o0_1_r6, s_o0_2_r6, s_o0_3_r6, h, hst⟩
          unfold impl_coatSearch_run_k6 at h
          refine Unw.seq ?_
          refine Go.r1 c90 rfl rfl hst (sq z90 (oMv rfl rfl) <| sq z90 (oBi rfl rfl rfl rfl) <| sq z90 (oAsI rfl rfl) <| nl) ?_
          refine Unw.nil ?_
          cases h
          exact ⟨rfl, (by kernel_rfl)⟩
        · intro K14
          refine Go.block ?_
          refine Go.seq ?_
          refine Go.seq ?_
          obtain ⟨x48, hx48, h⟩ := bs h
          refine Go.dr c90 rfl rfl rfl rfl (mk [(0, .v false [.mp 0 0 0]), (1, .v false [.own 1 0 0]), (3, iv latest_3), (10, .v false [.mp 10 0 0]), (11, iv begin_11_l5), (49, bv (!x48))] [(0, some ⟨0, 0, true, true, false, true, [⟨.imm, 0, 1, .row 4 (List.map e_S_Coat s_o0_0_l5)⟩, ⟨.imm, 0, 0, .sc (.int .i64 s_o0_1_l5)⟩, ⟨.imm, 0, 0, .sc (.int .i64 s_o0_2_l5)⟩, ⟨.imm, 0, 0, .sc (.int .i64 s_o0_3_l5)⟩]⟩), (1, some ⟨0, 0, false, false, false, false, [⟨.sh, 0, 0, .row 1 (List.map eI begins_1)⟩]⟩), (10, some ⟨0, 0, false, true, false, true, [⟨.imm, 0, 0, .sc (.string x29.Name)⟩, ⟨.imm, 0, 0, .sc (.int .i64 x29.Work)⟩, ⟨.imm, 0, 0, .sc (.int .i64 x29.Dry)⟩, ⟨.imm, 0, 0, .sc (.int .i64 x29.Wait)⟩]⟩)]) (sT rfl (dN z90 rfl (oMv rfl rfl)) <| sT rfl (dN z90 rfl (oMv rfl rfl)) <| sT rfl (dN z90 rfl (oNl rfl rfl rfl)) <| sT rfl (dN z90 rfl (oFA (r' := .mp 0 0 1) rfl fF132_1 rfl rfl)) <| sT rfl (dN z90 rfl (oLd (cs := [.im 0 _]) rfl tF2 rfl rfl)) <| sT rfl (dN z90 rfl (oMv rfl rfl)) <| sT rfl (dN z90 rfl (oNl rfl rfl rfl)) <| sT rfl (dN z90 rfl (oFA (r' := .mp 0 0 2) rfl fF132_2 rfl rfl)) <| sT rfl (dN z90 rfl (oLd (cs := [.im 0 _]) rfl tF2 rfl rfl)) <| sT rfl (dN z90 rfl (oFA (r' := .mp 10 0 1) rfl fF128_1 rfl rfl)) <| sT rfl (dN z90 rfl (oLd (cs := [.im 0 _]) rfl tF2 rfl rfl)) <| sS (dN z90 rfl (oCa (xs := [.v false [.im 0 _], .v false [.im 0 _], .v false [.im 0 _], .v false [.im 0 _]]) (vs := [(false, [.im 0 _])]) (v := .v false [.im 0 _]) (L_impl_inHours hx48) (.inl rfl) rfl kF94_2_2_2_2 rfl (ppC rfl (ppC rfl (ppC rfl (ppC rfl pp0)))) rfl rfl pb0 rfl rfl rfl)) trivial (sT rfl (dN z90 rfl (oUn rfl rfl rfl)) <| sD (by kernel_rfl))) ?_
          refine Unw.seq ?_
          by_cases hc15 : x48 = true
          · rw [if_pos hc15] at h
            refine Go.condF rfl (nF (Iff.rfl.2 hc15)) ?_
            refine Go.skip ?_
            refine Unw.seq ?_
            refine Go.seq ?_
            refine Go.seq ?_
            refine Go.r0 c90 rfl rfl (sq z90 (oMv rfl rfl) <| sq z90 (oNl rfl rfl rfl) <| sq z90 (oFA (r' := .mp 0 0 3) rfl fF132_3 rfl rfl) <| sq z90 (oLd (cs := [.im 0 _]) rfl tF2 rfl rfl) <| sq z90 (oBi rfl rfl rfl rfl) <| nl) ?_
            refine Unw.seq ?_
            by_cases hc16 : s_o0_3_l5 = 0
            · rw [if_pos hc16] at h
              refine Go.condT rfl (iEq.2 hc16) ?_
              refine Go.seq ?_
              refine Go.r0 c90 rfl rfl (sq z90 (oAsN rfl rfl eF27) <| sq z90 (oAsI rfl rfl) <| nl) ?_
              refine Unw.seq ?_
              refine Go.ret (Unw.ret ?_)
              cases h
              exact ⟨rfl, (fin_of rfl rF90 rfl (by kernel_rfl))⟩
            · rw [if_neg hc16] at h
              refine Go.condF rfl (byF iEq hc16) ?_
              refine Go.skip ?_
              refine Unw.seq ?_
              refine Go.seq ?_
              refine Go.r0 c90 rfl rfl (sq z90 (oMv rfl rfl) <| sq z90 (oNl rfl rfl rfl) <| sq z90 (oFA (r' := .mp 0 0 3) rfl fF132_3 rfl rfl) <| sq z90 (oLd (cs := [.im 0 _]) rfl tF2 rfl rfl) <| sq z90 (oBi rfl rfl rfl rfl) <| sq z90 (oNl rfl rfl rfl) <| sq z90 (oFA (r' := .mp 0 0 3) rfl fF132_3 rfl rfl) <| sq z90 (oSt tF2 rfl rfl rfl (tkI tk0) rfl rfl rfl) <| nl) ?_
              refine Unw.seq ?_
              refine Go.seq ?_
              obtain ⟨x65, hx65, h⟩ := bs h
              obtain ⟨x68, hx68, h⟩ := bs h
              obtain ⟨x83, hx83, h⟩ := bs h
              refine Go.dr c90 rfl rfl rfl (st1 := mk [(0, .v false [.mp 0 0 0]), (1, .v false [.own 1 0 0]), (3, iv latest_3), (10, .v false [.mp 10 0 0]), (11, iv begin_11_l5)] [(0, some ⟨0, 0, true, true, false, true, [⟨.imm, 0, 1, .row 4 (List.map e_S_Coat s_o0_0_l5)⟩, ⟨.imm, 0, 0, .sc (.int .i64 s_o0_1_l5)⟩, ⟨.imm, 0, 0, .sc (.int .i64 s_o0_2_l5)⟩, ⟨.imm, 0, 0, .sc (.int .i64 (w64 (s_o0_3_l5 - 1)))⟩]⟩), (1, some ⟨0, 0, false, false, false, false, [⟨.sh, 0, 0, .row 1 (List.map eI begins_1)⟩]⟩), (10, some ⟨0, 0, false, true, false, true, [⟨.imm, 0, 0, .sc (.string x29.Name)⟩, ⟨.imm, 0, 0, .sc (.int .i64 x29.Work)⟩, ⟨.imm, 0, 0, .sc (.int .i64 x29.Dry)⟩, ⟨.imm, 0, 0, .sc (.int .i64 x29.Wait)⟩]⟩)]) (by kernel_rfl) (mk [(0, .v false [.mp 0 0 0]), (1, .v false [.own 1 0 0]), (3, iv latest_3), (10, .v false [.mp 10 0 0]), (11, iv begin_11_l5), (12, .v false [.own 12 0 0]), (13, iv x83.2.1)] [(0, some ⟨0, 0, true, true, false, true, [⟨.imm, 0, 1, .row 4 (List.map e_S_Coat x83.2.2.list)⟩, ⟨.imm, 0, 0, .sc (.int .i64 x83.2.2.open_)⟩, ⟨.imm, 0, 0, .sc (.int .i64 x83.2.2.end_)⟩, ⟨.imm, 0, 0, .sc (.int .i64 x83.2.2.left)⟩]⟩), (1, some ⟨0, 0, false, false, false, false, [⟨.sh, 0, 0, .row 1 (List.map eI begins_1)⟩]⟩), (10, some ⟨0, 0, false, true, false, true, [⟨.imm, 0, 0, .sc (.string x29.Name)⟩, ⟨.imm, 0, 0, .sc (.int .i64 x29.Work)⟩, ⟨.imm, 0, 0, .sc (.int .i64 x29.Dry)⟩, ⟨.imm, 0, 0, .sc (.int .i64 x29.Wait)⟩]⟩), (12, some ⟨0, 0, false, false, false, false, [⟨.sh, 0, 0, .row 1 (List.map eI x83.1)⟩]⟩)]) (sT rfl (dN z90 rfl (oMv rfl rfl)) <| sT rfl (dN z90 rfl (oMv rfl rfl)) <| sT rfl (dN z90 rfl (oMv rfl rfl)) <| sT rfl (dN z90 rfl (oMv rfl rfl)) <| sT rfl (dN z90 rfl (oMv rfl rfl)) <| sK (O := [10]) rfl rfl rfl (dN z90 rfl (oFA (r' := .mp 10 0 1) rfl fF128_1 rfl rfl)) <| sK (O := [10]) rfl rfl rfl (dN z90 rfl (oLd (cs := [.im 0 _]) rfl tF2 rfl rfl)) <| sT rfl (dN z90 rfl (oBi rfl rfl rfl rfl)) <| sK (O := [10]) rfl rfl rfl (dN z90 rfl (oFA (r' := .mp 10 0 2) rfl fF128_2 rfl rfl)) <| sK (O := [10]) rfl rfl rfl (dN z90 rfl (oLd (cs := [.im 0 _]) rfl tF2 rfl rfl)) <| sT rfl (dN z90 rfl (oBi rfl rfl rfl rfl)) <| sK (O := [10]) rfl rfl rfl (dN z90 rfl (oFA (r' := .mp 10 0 1) rfl fF128_1 rfl rfl)) <| sK (O := [10]) rfl rfl rfl (dN z90 rfl (oLd (cs := [.im 0 _]) rfl tF2 rfl rfl)) <| sT rfl (dN z90 rfl (oBi rfl rfl rfl rfl)) <| sK (O := [10]) rfl rfl rfl (dN z90 rfl (oFA (r' := .mp 10 0 3) rfl fF128_3 rfl rfl)) <| sK (O := [10]) rfl rfl rfl (dN z90 rfl (oLd (cs := [.im 0 _]) rfl tF2 rfl rfl)) <| sT rfl (dN z90 rfl (oBi rfl rfl rfl rfl)) <| sF (dN z90 rfl (oCr (xs := [.v false [.own 1 0 0]]) (vs := [(false, [.own 65 0 0])]) (v := .v false [.own 65 0 0]) (c := ⟨.sh, 0, _⟩) (cs := []) (FL_cloneN (en := eI) (L := begins_1) rfl hx65 (fun _ => rfl)) (.inl rfl) rfl kF187_27 rfl (ppC rfl pp0) rfl rfl pb0 rfl rfl rfl)) (kY ⟨rfl, trivial⟩ (kY ⟨rfl, trivial⟩ (kY ⟨rfl, trivial⟩ (kY ⟨rfl, trivial⟩ (kY ⟨rfl, trivial⟩ (kY ⟨rfl, trivial⟩ (kY ⟨rfl, trivial⟩ (kY ⟨rfl, trivial⟩ trivial)))))))) (sS (dN z90 rfl (oBS (es := List.map eI ([begin_11_l5] : List Int)) rfl sF27 rfl (ptC rfl (fxI fx0) rfl pt0) (flat0 rfl fun _ => rfl))) (kY ⟨rfl, trivial⟩ (kY ⟨rfl, trivial⟩ (kY ⟨rfl, trivial⟩ (kY ⟨rfl, trivial⟩ (kY ⟨rfl, trivial⟩ (kY ⟨rfl, trivial⟩ (kY ⟨rfl, trivial⟩ (kY ⟨rfl, trivial⟩ trivial)))))))) (sS (dN z90 rfl (oApO (en := eI) (M := ([begin_11_l5] : List Int)) rfl hx68 rfl sF27 rfl rfl uF27 (.inl ⟨_, rfl⟩) rfl rfl rfl rfl (el_own rfl rfl) (flat0 rfl fun _ => rfl))) (kY ⟨rfl, trivial⟩ (kY ⟨rfl, trivial⟩ (kY ⟨rfl, trivial⟩ (kY ⟨rfl, trivial⟩ (kY ⟨rfl, trivial⟩ (kY ⟨rfl, trivial⟩ (kY ⟨rfl, trivial⟩ (kY ⟨rfl, trivial⟩ trivial)))))))) (sS (dN z90 rfl (oCr (xs := [.v false [.mp 0 0 0], .v false [.own 68 0 0], .v false [.im 0 _], .v false [.im 0 _]]) (vs := [(false, [.own 83 0 0]), (false, [.im 0 _])]) (v := .tup [(false, [.own 83 0 0]), (false, [.im 0 _])]) (c := ⟨.sh, 0, _⟩) (cs := []) (ih hx83) (.inl rfl) rfl kF90_130_27_2_2 rfl (ppP rfl rfl rfl (ppM (take_own rfl rfl) (ppC rfl (ppC rfl pp0)))) rfl rfl (pbP rfl rfl pb0) rfl rfl rfl)) (kN rfl (kN rfl (kN rfl (kN rfl (kN rfl (kN rfl (kN rfl (kN rfl trivial)))))))) (sT rfl (dN z90 rfl (oMvT rfl rfl)) <| sT rfl (dN z90 rfl (oEx rfl rfl rfl)) <| sT rfl (dN z90 rfl (oEx rfl rfl rfl)) <| sS (dN z90 rfl (oAsO rfl rfl rfl rfl rfl)) (kN rfl (kN rfl (kN rfl (kN rfl (kN rfl (kN rfl (kN rfl (kN rfl trivial)))))))) (sS (dN z90 rfl (oAsI rfl rfl)) (kN rfl (kN rfl (kN rfl (kN rfl (kN rfl (kN rfl (kN rfl (kN rfl trivial)))))))) (sD (by kernel_rfl))))))) (sS (dN z90 rfl (oBS (es := List.map eI ([begin_11_l5] : List Int)) rfl sF27 rfl (ptC rfl (fxI fx0) rfl pt0) (flat0 rfl fun _ => rfl))) (kY ⟨rfl, trivial⟩ (kY ⟨rfl, trivial⟩ (kY ⟨rfl, trivial⟩ (kY ⟨rfl, trivial⟩ (kY ⟨rfl, trivial⟩ (kY ⟨rfl, trivial⟩ (kY ⟨rfl, trivial⟩ (kY ⟨rfl, trivial⟩ trivial)))))))) (sS (dN z90 rfl (oCr (xs := [.v false [.own 1 0 0]]) (vs := [(false, [.own 65 0 0])]) (v := .v false [.own 65 0 0]) (c := ⟨.sh, 0, _⟩) (cs := []) (FL_cloneN (en := eI) (L := begins_1) rfl hx65 (fun _ => rfl)) (.inl rfl) rfl kF187_27 rfl (ppC rfl pp0) rfl rfl pb0 rfl rfl rfl)) (kY ⟨rfl, trivial⟩ (kY ⟨rfl, trivial⟩ (kY ⟨rfl, trivial⟩ (kY ⟨rfl, trivial⟩ (kY ⟨rfl, trivial⟩ (kY ⟨rfl, trivial⟩ (kY ⟨rfl, trivial⟩ (kY ⟨rfl, trivial⟩ trivial)))))))) (sS (dN z90 rfl (oApO (en := eI) (M := ([begin_11_l5] : List Int)) rfl hx68 rfl sF27 rfl rfl uF27 (.inl ⟨_, rfl⟩) rfl rfl rfl rfl (el_own rfl rfl) (flat0 rfl fun _ => rfl))) (kY ⟨rfl, trivial⟩ (kY ⟨rfl, trivial⟩ (kY ⟨rfl, trivial⟩ (kY ⟨rfl, trivial⟩ (kY ⟨rfl, trivial⟩ (kY ⟨rfl, trivial⟩ (kY ⟨rfl, trivial⟩ (kY ⟨rfl, trivial⟩ trivial)))))))) (sS (dN z90 rfl (oCr (xs := [.v false [.mp 0 0 0], .v false [.own 68 0 0], .v false [.im 0 _], .v false [.im 0 _]]) (vs := [(false, [.own 83 0 0]), (false, [.im 0 _])]) (v := .tup [(false, [.own 83 0 0]), (false, [.im 0 _])]) (c := ⟨.sh, 0, _⟩) (cs := []) (ih hx83) (.inl rfl) rfl kF90_130_27_2_2 rfl (ppP rfl rfl rfl (ppM (take_own rfl rfl) (ppC rfl (ppC rfl pp0)))) rfl rfl (pbP rfl rfl pb0) rfl rfl rfl)) (kN rfl (kN rfl (kN rfl (kN rfl (kN rfl (kN rfl (kN rfl (kN rfl trivial)))))))) (sT rfl (dN z90 rfl (oMvT rfl rfl)) <| sT rfl (dN z90 rfl (oEx rfl rfl rfl)) <| sT rfl (dN z90 rfl (oEx rfl rfl rfl)) <| sS (dN z90 rfl (oAsO rfl rfl rfl rfl rfl)) (kN rfl (kN rfl (kN rfl (kN rfl (kN rfl (kN rfl (kN rfl (kN rfl trivial)))))))) (sS (dN z90 rfl (oAsI rfl rfl)) (kN rfl (kN rfl (kN rfl (kN rfl (kN rfl (kN rfl (kN rfl (kN rfl trivial)))))))) (sD (by kernel_rfl))))))))) ?_
              refine Unw.seq ?_
              refine Go.seq ?_
              refine Go.r0 c90 rfl rfl (sq z90 (oMv rfl rfl) <| sq z90 (oBi rfl rfl rfl rfl) <| nl) ?_
              refine Unw.seq ?_
              by_cases hc17 : x83.2.1 ≠ 3
              · rw [if_pos hc17] at h
                refine Go.condT rfl (iNe.2 hc17) ?_
                refine Go.seq ?_
                refine Go.r0 c90 rfl rfl (sq z90 (oMv rfl rfl) <| sq z90 (oMv rfl rfl) <| sq z90 (oAsO rfl rfl rfl rfl rfl) <| sq z90 (oAsI rfl rfl) <| nl) ?_
                refine Unw.seq ?_
                refine Go.ret (Unw.ret ?_)
                cases h
                exact ⟨rfl, (fin_of rfl rF90 rfl (by kernel_rfl))⟩
              · rw [if_neg hc17] at h
                refine Go.condF rfl (byF iNe hc17) ?_
                refine Go.skip ?_
                refine Unw.blk ?_
                exact K14 _ ⟨x83.2.2.list, x83.2.2.open_, x83.2.2.end_, x83.2.2.left, h, (by kernel_rfl)⟩
          · rw [if_neg hc15] at h
            refine Go.condT rfl (nT (byF Iff.rfl hc15)) ?_
            refine Go.exit ?_
            refine Unw.seqx ?_
            refine Unw.blkx ?_
            exact K14 _ ⟨s_o0_0_l5, s_o0_1_l5, s_o0_2_l5, s_o0_3_l5, h, (by kernel_rfl)⟩
      · rw [if_neg hc10] at h
        refine Go.condF rfl (byF iDec hc10) ?_
        refine Go.exit ?_
        refine Unw.seqx ?_
        refine Unw.nil ?_
        cases h
        exact ⟨rfl, (by kernel_rfl)⟩
    · rintro ⟨e, st⟩ hp
      rcases o with ⟨s_o0_0_e0_5, s_o0_1_e0_5, s_o0_2_e0_5, s_o0_3_e0_5⟩ | r2
      · dsimp only at h
        obtain ⟨he, hst⟩ := hp
        obtain rfl : e = .exit 0 := he
        refine Unw.blkx ?_
        refine Unw.seq ?_
        refine Go.seq ?_
        refine Go.r1 c90 rfl rfl hst (sq z90 (oAsN rfl rfl eF27) <| sq z90 (oAsI rfl rfl) <| nl) ?_
        refine Unw.seq ?_
        refine Go.ret (Unw.ret ?_)
        cases h
        exact Fin_ret (fin_of rfl rF90 rfl (by kernel_rfl))
      · dsimp only at h
        obtain ⟨he, hfin⟩ := hp
        obtain rfl : e = .ret := he
        cases h
        exact Unw.ret (Fin_ret hfin)
theorem L_impl_coatSearch_run {s_0 : S_coatSearch} {begins_1 : (List Int)} {least_2 : Int} {latest_3 : Int} {r : ((List Int) × Int × S_coatSearch)} (h : impl_coatSearch_run s_0 begins_1 least_2 latest_3 = some r) : FL Try.prog cfg 90 [.ptr true [(.imm, .row 4 (List.map e_S_Coat s_0.list)), (.imm, .sc (.int .i64 s_0.open_)), (.imm, .sc (.int .i64 s_0.end_)), (.imm, .sc (.int .i64 s_0.left))], .mv 1 (List.map eI begins_1), .im 2 false [.sc (.int .i64 least_2)], .im 2 false [.sc (.int .i64 latest_3)]] = some ([(false, [.ow 0 1 (List.map eI r.1)]), (false, [.im 0 (.sc (.int .i64 r.2.1))])], [.ptr true [(.imm, .row 4 (List.map e_S_Coat r.2.2.list)), (.imm, .sc (.int .i64 r.2.2.open_)), (.imm, .sc (.int .i64 r.2.2.end_)), (.imm, .sc (.int .i64 r.2.2.left))]]) := by
  unfold impl_coatSearch_run at h
  obtain ⟨n, hn⟩ := fixO_iter h
  clear h
  induction n generalizing s_0 begins_1 least_2 latest_3 r with
  | zero => cases hn
  | succ n ihn => exact L_impl_coatSearch_run_F (self := iterO _ n) (fun h => ihn h) hn
theorem L_impl_FirstCoatPlan {list_0 : (List S_Coat)} {start_1 : Int} {open_2 : Int} {end_3 : Int} {budget_4 : Int} {r : ((List Int) × Int)} (h : impl_FirstCoatPlan list_0 start_1 open_2 end_3 budget_4 = some r) : FL Try.prog cfg 17 [.im 2 false [.row 4 (List.map e_S_Coat list_0)], .im 2 false [.sc (.int .i64 start_1)], .im 2 false [.sc (.int .i64 open_2)], .im 2 false [.sc (.int .i64 end_3)], .im 2 false [.sc (.int .i64 budget_4)]] = some ([(false, [.ow 0 1 (List.map eI r.1)]), (false, [.im 0 (.sc (.int .i64 r.2))])], []) := by
  unfold impl_FirstCoatPlan at h
  refine FL_goS (A := [(0, .v false [.im 2 (.row 4 (List.map e_S_Coat list_0))]), (1, .v false [.im 2 (.sc (.int .i64 start_1))]), (2, .v false [.im 2 (.sc (.int .i64 open_2))]), (3, .v false [.im 2 (.sc (.int .i64 end_3))]), (4, .v false [.im 2 (.sc (.int .i64 budget_4))])]) (B := [(0, none), (1, none), (2, none), (3, none), (4, none)]) (nt := 37) rfl rfl Try.func17 rfl rfl rfl rfl ?_
  refine Go.seq ?_
  refine Go.r0 c17 rfl rfl (sq z17 (oAsN rfl rfl eF27) <| sq z17 (oAsI rfl rfl) <| nl) ?_
  refine Unw.seq ?_
  refine Go.seq ?_
  refine Go.seq ?_
  obtain ⟨x19, hx19, h⟩ := bs h
  refine Go.r0 c17 rfl rfl (sq z17 (oMv rfl rfl) <| sq z17 (oMv rfl rfl) <| sq z17 (oMv rfl rfl) <| sq z17 (oMv rfl rfl) <| sq z17 (oMv rfl rfl) <| sq z17 (oCa (xs := [.v false [.im 2 _], .v false [.im 2 _], .v false [.im 2 _], .v false [.im 2 _], .v false [.im 2 _]]) (vs := [(false, [.im 0 _])]) (v := .v false [.im 0 _]) (L_impl_coatsCode hx19) (.inl rfl) rfl kF88_24_2_2_2_2 rfl (ppC rfl (ppC rfl (ppC rfl (ppC rfl (ppC rfl pp0))))) rfl rfl pb0 rfl rfl rfl) <| sq z17 (oAsI rfl rfl) <| nl) ?_
  refine Unw.seq ?_
  refine Go.seq ?_
  refine Go.r0 c17 rfl rfl (sq z17 (oMv rfl rfl) <| sq z17 (oBi rfl rfl rfl rfl) <| nl) ?_
  refine Unw.seq ?_
  by_cases hc1 : x19 ≠ 0
  · rw [if_pos hc1] at h
    refine Go.condT rfl (iNe.2 hc1) ?_
    refine Go.seq ?_
    refine Go.r0 c17 rfl rfl (sq z17 (oMv rfl rfl) <| sq z17 (oAsN rfl rfl eF27) <| sq z17 (oAsI rfl rfl) <| nl) ?_
    refine Unw.seq ?_
    refine Go.ret (Unw.ret ?_)
    cases h
    exact Fin_ret (fin_of rfl rF17 rfl (by kernel_rfl))
  · rw [if_neg hc1] at h
    refine Go.condF rfl (byF iNe hc1) ?_
    refine Go.skip ?_
    refine Unw.seq ?_
    refine Go.seq ?_
    refine Go.r0 c17 rfl rfl (sq z17 (oMv rfl rfl) <| sq z17 (oMv rfl rfl) <| sq z17 (oMv rfl rfl) <| sq z17 (oMv rfl rfl) <| sq z17 (oBu (cs := [.im 2 _, .im 2 _, .im 2 _, .im 2 _]) rfl bF132 rfl) <| sq z17 (oBx rfl tF132 rfl (tkI (tkI (tkI (tkI tk0))))) <| sq z17 (oAsP rfl rfl) <| nl) ?_
    refine Unw.seq ?_
    refine Go.seq ?_
    obtain ⟨x34, hx34, h⟩ := bs h
    refine Go.r0 c17 rfl rfl (sq z17 (oMv rfl rfl) <| sq z17 (oMv rfl rfl) <| sq z17 (oMv rfl rfl) <| sq z17 (oBi rfl rfl rfl rfl) <| sq z17 (oBi rfl rfl rfl rfl) <| sq z17 (oCr (xs := [.v false [.mp 28 0 0], .v false [.nil], .v false [.im 2 _], .v false [.im 0 _]]) (vs := [(false, [.own 34 0 0]), (false, [.im 0 _])]) (v := .tup [(false, [.own 34 0 0]), (false, [.im 0 _])]) (c := ⟨.sh, 0, _⟩) (cs := []) (L_impl_coatSearch_run hx34) (.inl rfl) rfl kF90_130_27_2_2 rfl (ppP rfl rfl rfl (ppM take_nil (ppC rfl (ppC rfl pp0)))) rfl rfl (pbP rfl rfl pb0) rfl rfl rfl) <| sq z17 (oEx rfl rfl rfl) <| sq z17 (oEx rfl rfl rfl) <| sq z17 (oAsO rfl rfl rfl rfl rfl) <| sq z17 (oAsI rfl rfl) <| nl) ?_
    refine Unw.seq ?_
    refine Go.ret (Unw.ret ?_)
    cases h
    exact Fin_ret (fin_of rfl rF17 rfl (by kernel_rfl))
theorem L_impl_IsCoatPlan {list_0 : (List S_Coat)} {begins_1 : (List Int)} {start_2 : Int} {open_3 : Int} {end_4 : Int} {r : Bool} (h : impl_IsCoatPlan list_0 begins_1 start_2 open_3 end_4 = some r) : FL Try.prog cfg 18 [.im 2 false [.row 4 (List.map e_S_Coat list_0)], .im 2 false [.row 1 (List.map eI begins_1)], .im 2 false [.sc (.int .i64 start_2)], .im 2 false [.sc (.int .i64 open_3)], .im 2 false [.sc (.int .i64 end_4)]] = some ([(false, [.im 0 (.sc (.bool r))])], []) := by
  unfold impl_IsCoatPlan at h
  refine FL_goS (A := [(0, .v false [.im 2 (.row 4 (List.map e_S_Coat list_0))]), (1, .v false [.im 2 (.row 1 (List.map eI begins_1))]), (2, .v false [.im 2 (.sc (.int .i64 start_2))]), (3, .v false [.im 2 (.sc (.int .i64 open_3))]), (4, .v false [.im 2 (.sc (.int .i64 end_4))])]) (B := [(0, none), (1, none), (2, none), (3, none), (4, none)]) (nt := 84) rfl rfl Try.func18 rfl rfl rfl rfl ?_
  refine Go.seq ?_
  refine Go.r0 c18 rfl rfl (sq z18 (oAsI rfl rfl) <| nl) ?_
  refine Unw.seq ?_
  refine Go.seq ?_
  refine Go.seq ?_
  obtain ⟨x15, hx15, h⟩ := bs h
  obtain ⟨t_34_m1, hm29, h⟩ := bs h
  refine Go.rX c18 rfl rfl rfl (mk [(0, .v false [.im 2 (.row 4 (List.map e_S_Coat list_0))]), (1, .v false [.im 2 (.row 1 (List.map eI begins_1))]), (2, iv start_2), (3, iv open_3), (4, iv end_4), (34, bv t_34_m1)] []) ?_ ?_
  · by_cases hc1 : x15 = true
    · rw [if_pos hc1] at hm29
      obtain ⟨x19, hx19, hm29⟩ := bs hm29
      by_cases hc2 : x19 = true
      · rw [if_pos hc2] at hm29
        obtain ⟨x25, hx25, hm29⟩ := bs hm29
        by_cases hc3 : x25 = true
        · rw [if_pos hc3] at hm29
          cases hm29
          exact ⟨_, sq z18 (oMv rfl rfl) <| sq z18 (oCa (xs := [.v false [.im 2 _]]) (vs := [(false, [.im 0 _])]) (v := .v false [.im 0 _]) (L_impl_ValidCoats hx15) (.inl rfl) rfl kF91_24 rfl (ppC rfl pp0) rfl rfl pb0 rfl rfl rfl) <| sq z18 (oUn rfl rfl rfl) <| sq z18 (oMv rfl rfl) <| sgT z18 rfl rfl (nF (Iff.rfl.2 hc1)) (oMv rfl rfl) <| sgT z18 rfl rfl (nF (Iff.rfl.2 hc1)) (oCa (xs := [.v false [.im 2 _], .v false [.im 0 _], .v false [.im 0 _]]) (vs := [(false, [.im 0 _])]) (v := .v false [.im 0 _]) (L_impl_within hx19) (.inl rfl) rfl kF92_2_2_2 rfl (ppC rfl (ppC rfl (ppC rfl pp0))) rfl rfl pb0 rfl rfl rfl) <| sgT z18 rfl rfl (nF (Iff.rfl.2 hc1)) (oUn rfl rfl rfl) <| sq z18 (oPkF rfl rfl (nF (Iff.rfl.2 hc1)) rfl) <| sq z18 (oMv rfl rfl) <| sgT z18 rfl rfl (nF (Iff.rfl.2 hc2)) (oMv rfl rfl) <| sgT z18 rfl rfl (nF (Iff.rfl.2 hc2)) (oMv rfl rfl) <| sgT z18 rfl rfl (nF (Iff.rfl.2 hc2)) (oCa (xs := [.v false [.im 2 _], .v false [.im 2 _]]) (vs := [(false, [.im 0 _])]) (v := .v false [.im 0 _]) (L_impl_areHours hx25) (.inl rfl) rfl kF93_2_2 rfl (ppC rfl (ppC rfl pp0)) rfl rfl pb0 rfl rfl rfl) <| sgT z18 rfl rfl (nF (Iff.rfl.2 hc2)) (oUn rfl rfl rfl) <| sq z18 (oPkF rfl rfl (nF (Iff.rfl.2 hc2)) rfl) <| sq z18 (oMv rfl rfl) <| sgT z18 rfl rfl (nF (Iff.rfl.2 hc3)) (oMv rfl rfl) <| sgT z18 rfl rfl (nF (Iff.rfl.2 hc3)) (oLnI rfl rfl uF27 rfl) <| sgT z18 rfl rfl (nF (Iff.rfl.2 hc3)) (oMv rfl rfl) <| sgT z18 rfl rfl (nF (Iff.rfl.2 hc3)) (oLnI rfl rfl uF24 rfl) <| sgT z18 rfl rfl (nF (Iff.rfl.2 hc3)) (oBi rfl rfl rfl rfl) <| sq z18 (oPkF rfl rfl (nF (Iff.rfl.2 hc3)) rfl) <| nl, (by kernel_rfl)⟩
        · rw [if_neg hc3] at hm29
          cases hm29
          exact ⟨_, sq z18 (oMv rfl rfl) <| sq z18 (oCa (xs := [.v false [.im 2 _]]) (vs := [(false, [.im 0 _])]) (v := .v false [.im 0 _]) (L_impl_ValidCoats hx15) (.inl rfl) rfl kF91_24 rfl (ppC rfl pp0) rfl rfl pb0 rfl rfl rfl) <| sq z18 (oUn rfl rfl rfl) <| sq z18 (oMv rfl rfl) <| sgT z18 rfl rfl (nF (Iff.rfl.2 hc1)) (oMv rfl rfl) <| sgT z18 rfl rfl (nF (Iff.rfl.2 hc1)) (oCa (xs := [.v false [.im 2 _], .v false [.im 0 _], .v false [.im 0 _]]) (vs := [(false, [.im 0 _])]) (v := .v false [.im 0 _]) (L_impl_within hx19) (.inl rfl) rfl kF92_2_2_2 rfl (ppC rfl (ppC rfl (ppC rfl pp0))) rfl rfl pb0 rfl rfl rfl) <| sgT z18 rfl rfl (nF (Iff.rfl.2 hc1)) (oUn rfl rfl rfl) <| sq z18 (oPkF rfl rfl (nF (Iff.rfl.2 hc1)) rfl) <| sq z18 (oMv rfl rfl) <| sgT z18 rfl rfl (nF (Iff.rfl.2 hc2)) (oMv rfl rfl) <| sgT z18 rfl rfl (nF (Iff.rfl.2 hc2)) (oMv rfl rfl) <| sgT z18 rfl rfl (nF (Iff.rfl.2 hc2)) (oCa (xs := [.v false [.im 2 _], .v false [.im 2 _]]) (vs := [(false, [.im 0 _])]) (v := .v false [.im 0 _]) (L_impl_areHours hx25) (.inl rfl) rfl kF93_2_2 rfl (ppC rfl (ppC rfl pp0)) rfl rfl pb0 rfl rfl rfl) <| sgT z18 rfl rfl (nF (Iff.rfl.2 hc2)) (oUn rfl rfl rfl) <| sq z18 (oPkF rfl rfl (nF (Iff.rfl.2 hc2)) rfl) <| sq z18 (oMv rfl rfl) <| sgF rfl rfl (nT (byF Iff.rfl hc3)) rfl <| sgF rfl rfl (nT (byF Iff.rfl hc3)) rfl <| sgF rfl rfl (nT (byF Iff.rfl hc3)) rfl <| sgF rfl rfl (nT (byF Iff.rfl hc3)) rfl <| sgF rfl rfl (nT (byF Iff.rfl hc3)) rfl <| sq z18 (oPkT rfl rfl (nT (byF Iff.rfl hc3)) rfl) <| nl, (by kernel_rfl)⟩
      · rw [if_neg hc2] at hm29
        cases hm29
        exact ⟨_, sq z18 (oMv rfl rfl) <| sq z18 (oCa (xs := [.v false [.im 2 _]]) (vs := [(false, [.im 0 _])]) (v := .v false [.im 0 _]) (L_impl_ValidCoats hx15) (.inl rfl) rfl kF91_24 rfl (ppC rfl pp0) rfl rfl pb0 rfl rfl rfl) <| sq z18 (oUn rfl rfl rfl) <| sq z18 (oMv rfl rfl) <| sgT z18 rfl rfl (nF (Iff.rfl.2 hc1)) (oMv rfl rfl) <| sgT z18 rfl rfl (nF (Iff.rfl.2 hc1)) (oCa (xs := [.v false [.im 2 _], .v false [.im 0 _], .v false [.im 0 _]]) (vs := [(false, [.im 0 _])]) (v := .v false [.im 0 _]) (L_impl_within hx19) (.inl rfl) rfl kF92_2_2_2 rfl (ppC rfl (ppC rfl (ppC rfl pp0))) rfl rfl pb0 rfl rfl rfl) <| sgT z18 rfl rfl (nF (Iff.rfl.2 hc1)) (oUn rfl rfl rfl) <| sq z18 (oPkF rfl rfl (nF (Iff.rfl.2 hc1)) rfl) <| sq z18 (oMv rfl rfl) <| sgF rfl rfl (nT (byF Iff.rfl hc2)) rfl <| sgF rfl rfl (nT (byF Iff.rfl hc2)) rfl <| sgF rfl rfl (nT (byF Iff.rfl hc2)) rfl <| sgF rfl rfl (nT (byF Iff.rfl hc2)) rfl <| sq z18 (oPkT rfl rfl (nT (byF Iff.rfl hc2)) rfl) <| sq z18 (oMv rfl rfl) <| sgF rfl rfl rfl rfl <| sgF rfl rfl rfl rfl <| sgF rfl rfl rfl rfl <| sgF rfl rfl rfl rfl <| sgF rfl rfl rfl rfl <| sq z18 (oPkT rfl rfl rfl rfl) <| nl, (by kernel_rfl)⟩
    · rw [if_neg hc1] at hm29
      cases hm29
      exact ⟨_, sq z18 (oMv rfl rfl) <| sq z18 (oCa (xs := [.v false [.im 2 _]]) (vs := [(false, [.im 0 _])]) (v := .v false [.im 0 _]) (L_impl_ValidCoats hx15) (.inl rfl) rfl kF91_24 rfl (ppC rfl pp0) rfl rfl pb0 rfl rfl rfl) <| sq z18 (oUn rfl rfl rfl) <| sq z18 (oMv rfl rfl) <| sgF rfl rfl (nT (byF Iff.rfl hc1)) rfl <| sgF rfl rfl (nT (byF Iff.rfl hc1)) rfl <| sgF rfl rfl (nT (byF Iff.rfl hc1)) rfl <| sq z18 (oPkT rfl rfl (nT (byF Iff.rfl hc1)) rfl) <| sq z18 (oMv rfl rfl) <| sgF rfl rfl rfl rfl <| sgF rfl rfl rfl rfl <| sgF rfl rfl rfl rfl <| sgF rfl rfl rfl rfl <| sq z18 (oPkT rfl rfl rfl rfl) <| sq z18 (oMv rfl rfl) <| sgF rfl rfl rfl rfl <| sgF rfl rfl rfl rfl <| sgF rfl rfl rfl rfl <| sgF rfl rfl rfl rfl <| sgF rfl rfl rfl rfl <| sq z18 (oPkT rfl rfl rfl rfl) <| nl, (by kernel_rfl)⟩
  · refine Unw.seq ?_
    by_cases hc4 : t_34_m1 = true
    · rw [if_pos hc4] at h
      refine Go.condT rfl (Iff.rfl.2 hc4) ?_
      refine Go.seq ?_
      refine Go.r0 c18 rfl rfl (sq z18 (oAsI rfl rfl) <| nl) ?_
      refine Unw.seq ?_
      refine Go.ret (Unw.ret ?_)
      cases h
      exact Fin_ret (fin_of rfl rF18 rfl (by kernel_rfl))
    · rw [if_neg hc4] at h
      refine Go.condF rfl (byF Iff.rfl hc4) ?_
      refine Go.skip ?_
      refine Unw.seq ?_
      refine Go.seq ?_
      refine Go.seq ?_
      refine Go.r0 c18 rfl rfl (sq z18 (oMv rfl rfl) <| sq z18 (oLnI rfl rfl uF27 rfl) <| sq z18 (oMv rfl rfl) <| nl) ?_
      refine Unw.seq ?_
      refine Go.block ?_
      obtain ⟨o, hl, h⟩ := bs h
      refine Go.lp c18 rfl _ (fun (t_37_l4 : Int) => mk [(0, .v false [.im 2 (.row 4 (List.map e_S_Coat list_0))]), (1, .v false [.im 2 (.row 1 (List.map eI begins_1))]), (2, iv start_2), (3, iv open_3), (4, iv end_4), (35, .v false [.im 2 (.row 1 (List.map eI begins_1))]), (36, iv (begins_1.length : Int)), (37, iv t_37_l4)] []) (fun (o : (Unit ⊕ Bool)) (p : Ex × St) => match o with | (.inl _) => p.1 = .exit 0 ∧ p.2.norm ([], []) = mk [] [] | (.inr r2) => p.1 = .ret ∧ fin Try.prog cfg 18 Try.f18 [.im 2 false [.row 4 (List.map e_S_Coat list_0)], .im 2 false [.row 1 (List.map eI begins_1)], .im 2 false [.sc (.int .i64 start_2)], .im 2 false [.sc (.int .i64 open_3)], .im 2 false [.sc (.int .i64 end_4)]] p.2 = some ([(false, [.im 0 (.sc (.bool r2))])], [])) hl (by kernel_rfl) ?_ ?_ ?_
      · intro o p hp e
        rcases o with u | r2 <;> exact nomatch (hp.1.symm.trans e)
      · rintro t_37_l4 o h
        unfold impl_IsCoatPlan_l4 at h
        refine Go.seq ?_
        refine Go.r0 c18 rfl rfl (sq z18 (oBi rfl rfl rfl rfl) <| nl) ?_
        refine Unw.seq ?_
        refine Go.seq ?_
        by_cases hc17 : t_37_l4 < (begins_1.length : Int)
        · rw [if_pos hc17] at h
          refine Go.condT rfl (iDec.2 hc17) ?_
          refine Go.skip ?_
          refine Unw.seq ?_
          refine Go.seq ?_
          refine Go.join (fun st => impl_IsCoatPlan_k12 t_37_l4 = some o ∧ st.norm ([0, 1, 2, 3, 4, 35, 36, 37], []) = mk [(0, .v false [.im 2 (.row 4 (List.map e_S_Coat list_0))]), (1, .v false [.im 2 (.row 1 (List.map eI begins_1))]), (2, iv start_2), (3, iv open_3), (4, iv end_4), (35, .v false [.im 2 (.row 1 (List.map eI begins_1))]), (36, iv (begins_1.length : Int)), (37, iv t_37_l4)] []) ?_ ?_
          · rintro st ⟨h, hst⟩
            unfold impl_IsCoatPlan_k12 at h
            refine Unw.seq ?_
            refine Go.r1 c18 rfl rfl hst (sq z18 (oBi rfl rfl rfl rfl) <| sq z18 (oMv rfl rfl) <| nl) ?_
            refine Unw.nil ?_
            cases h
            exact ⟨rfl, (by kernel_rfl)⟩
          · intro K23
            refine Go.block ?_
            refine Go.seq ?_
            obtain ⟨x40, hx40, h⟩ := bs h
            refine Go.r0 c18 rfl rfl (sq z18 (oMv rfl rfl) <| sq z18 (oIAI rfl hx40 sF27 rfl rfl) <| sq z18 (oLd (cs := [.im 2 _]) rfl tF2 rfl rfl) <| sq z18 (oAsI rfl rfl) <| sq z18 (oAsI rfl rfl) <| nl) ?_
            refine Unw.seq ?_
            refine Go.seq ?_
            refine Go.seq ?_
            obtain ⟨t_56_m6, hm28, h⟩ := bs h
            refine Go.rX c18 rfl rfl rfl (mk [(0, .v false [.im 2 (.row 4 (List.map e_S_Coat list_0))]), (1, .v false [.im 2 (.row 1 (List.map eI begins_1))]), (2, iv start_2), (3, iv open_3), (4, iv end_4), (11, iv t_37_l4), (12, iv x40), (35, .v false [.im 2 (.row 1 (List.map eI begins_1))]), (36, iv (begins_1.length : Int)), (37, iv t_37_l4), (56, bv t_56_m6)] []) ?_ ?_
            · by_cases hc24 : x40 < start_2
              · rw [if_pos hc24] at hm28
                cases hm28
                exact ⟨_, sq z18 (oMv rfl rfl) <| sq z18 (oMv rfl rfl) <| sq z18 (oBi rfl rfl rfl rfl) <| sq z18 (oMv rfl rfl) <| sgF rfl rfl (iDec.2 hc24) rfl <| sgF rfl rfl (iDec.2 hc24) rfl <| sgF rfl rfl (iDec.2 hc24) rfl <| sgF rfl rfl (iDec.2 hc24) rfl <| sgF rfl rfl (iDec.2 hc24) rfl <| sgF rfl rfl (iDec.2 hc24) rfl <| sgF rfl rfl (iDec.2 hc24) rfl <| sgF rfl rfl (iDec.2 hc24) rfl <| sgF rfl rfl (iDec.2 hc24) rfl <| sgF rfl rfl (iDec.2 hc24) rfl <| sq z18 (oPkT rfl rfl (iDec.2 hc24) rfl) <| nl, (by kernel_rfl)⟩
              · rw [if_neg hc24] at hm28
                obtain ⟨x51, hx51, hm28⟩ := bs hm28
                obtain ⟨x54, hx54, hm28⟩ := bs hm28
                cases hm28
                exact ⟨_, sq z18 (oMv rfl rfl) <| sq z18 (oMv rfl rfl) <| sq z18 (oBi rfl rfl rfl rfl) <| sq z18 (oMv rfl rfl) <| sgT z18 rfl rfl (byF iDec hc24) (oMv rfl rfl) <| sgT z18 rfl rfl (byF iDec hc24) (oMv rfl rfl) <| sgT z18 rfl rfl (byF iDec hc24) (oMv rfl rfl) <| sgT z18 rfl rfl (byF iDec hc24) (oMv rfl rfl) <| sgT z18 rfl rfl (byF iDec hc24) (oMv rfl rfl) <| sgT z18 rfl rfl (byF iDec hc24) (oIAI rfl hx51 sF24 rfl rfl) <| sgT z18 rfl rfl (byF iDec hc24) (oFA (r' := .im 2 _) rfl fF128_1 rfl rfl) <| sgT z18 rfl rfl (byF iDec hc24) (oLd (cs := [.im 2 _]) rfl tF2 rfl rfl) <| sgT z18 rfl rfl (byF iDec hc24) (oCa (xs := [.v false [.im 2 _], .v false [.im 0 _], .v false [.im 0 _], .v false [.im 2 _]]) (vs := [(false, [.im 0 _])]) (v := .v false [.im 0 _]) (L_impl_inHours hx54) (.inl rfl) rfl kF94_2_2_2_2 rfl (ppC rfl (ppC rfl (ppC rfl (ppC rfl pp0)))) rfl rfl pb0 rfl rfl rfl) <| sgT z18 rfl rfl (byF iDec hc24) (oUn rfl rfl rfl) <| sq z18 (oPkF rfl rfl (byF iDec hc24) rfl) <| nl, (by kernel_rfl)⟩
            · refine Unw.seq ?_
              by_cases hc25 : t_56_m6 = true
              · rw [if_pos hc25] at h
                refine Go.condT rfl (Iff.rfl.2 hc25) ?_
                refine Go.seq ?_
                refine Go.r0 c18 rfl rfl (sq z18 (oAsI rfl rfl) <| nl) ?_
                refine Unw.seq ?_
                refine Go.ret (Unw.ret ?_)
                cases h
                exact ⟨rfl, (fin_of rfl rF18 rfl (by kernel_rfl))⟩
              · rw [if_neg hc25] at h
                refine Go.condF rfl (byF Iff.rfl hc25) ?_
                refine Go.skip ?_
                refine Unw.seq ?_
                refine Go.seq ?_
                refine Go.r0 c18 rfl rfl (sq z18 (oMv rfl rfl) <| sq z18 (oBi rfl rfl rfl rfl) <| nl) ?_
                refine Unw.seq ?_
                by_cases hc26 : t_37_l4 > 0
                · rw [if_pos hc26] at h
                  refine Go.condT rfl (iDec.2 hc26) ?_
                  refine Go.seq ?_
                  obtain ⟨x62, hx62, h⟩ := bs h
                  refine Go.r0 c18 rfl rfl (sq z18 (oMv rfl rfl) <| sq z18 (oMv rfl rfl) <| sq z18 (oBi rfl rfl rfl rfl) <| sq z18 (oIAI rfl hx62 sF24 rfl rfl) <| sq z18 (oLd (cs := [.im 2 _, .im 2 _, .im 2 _, .im 2 _]) rfl tF128 rfl rfl) <| sq z18 (oAl rfl tF128 (tkI (tkI (tkI (tkI tk0))))) <| sq z18 (oSt tF128 rfl rfl rfl (tkI (tkI (tkI (tkI tk0)))) rfl rfl rfl) <| nl) ?_
                  refine Unw.seq ?_
                  refine Go.seq ?_
                  obtain ⟨x68, hx68, h⟩ := bs h
                  obtain ⟨x81, hx81, h⟩ := bs h
                  refine Go.dr c18 rfl rfl rfl (st1 := mk [(0, .v false [.im 2 (.row 4 (List.map e_S_Coat list_0))]), (1, .v false [.im 2 (.row 1 (List.map eI begins_1))]), (2, iv start_2), (3, iv open_3), (4, iv end_4), (11, iv t_37_l4), (12, iv x40), (13, .v false [.mp 13 0 0]), (35, .v false [.im 2 (.row 1 (List.map eI begins_1))]), (36, iv (begins_1.length : Int)), (37, iv t_37_l4)] [(13, some ⟨0, 0, false, true, false, true, [⟨.imm, 0, 0, .sc (.string x62.Name)⟩, ⟨.imm, 0, 0, .sc (.int .i64 x62.Work)⟩, ⟨.imm, 0, 0, .sc (.int .i64 x62.Dry)⟩, ⟨.imm, 0, 0, .sc (.int .i64 x62.Wait)⟩]⟩)]) (by kernel_rfl) (mk [(0, .v false [.im 2 (.row 4 (List.map e_S_Coat list_0))]), (1, .v false [.im 2 (.row 1 (List.map eI begins_1))]), (2, iv start_2), (3, iv open_3), (4, iv end_4), (35, .v false [.im 2 (.row 1 (List.map eI begins_1))]), (36, iv (begins_1.length : Int)), (37, iv t_37_l4), (82, bv (!x81))] []) (sT rfl (dN z18 rfl (oMv rfl rfl)) <| sT rfl (dN z18 rfl (oMv rfl rfl)) <| sT rfl (dN z18 rfl (oMv rfl rfl)) <| sT rfl (dN z18 rfl (oBi rfl rfl rfl rfl)) <| sT rfl (dN z18 rfl (oIAI rfl hx68 sF27 rfl rfl)) <| sT rfl (dN z18 rfl (oLd (cs := [.im 2 _]) rfl tF2 rfl rfl)) <| sT rfl (dN z18 rfl (oBi rfl rfl rfl rfl)) <| sT rfl (dN z18 rfl (oFA (r' := .mp 13 0 1) rfl fF128_1 rfl rfl)) <| sT rfl (dN z18 rfl (oLd (cs := [.im 0 _]) rfl tF2 rfl rfl)) <| sT rfl (dN z18 rfl (oFA (r' := .mp 13 0 2) rfl fF128_2 rfl rfl)) <| sT rfl (dN z18 rfl (oLd (cs := [.im 0 _]) rfl tF2 rfl rfl)) <| sT rfl (dN z18 rfl (oBi rfl rfl rfl rfl)) <| sT rfl (dN z18 rfl (oFA (r' := .mp 13 0 1) rfl fF128_1 rfl rfl)) <| sT rfl (dN z18 rfl (oLd (cs := [.im 0 _]) rfl tF2 rfl rfl)) <| sT rfl (dN z18 rfl (oFA (r' := .mp 13 0 3) rfl fF128_3 rfl rfl)) <| sT rfl (dN z18 rfl (oLd (cs := [.im 0 _]) rfl tF2 rfl rfl)) <| sT rfl (dN z18 rfl (oBi rfl rfl rfl rfl)) <| sS (dN z18 rfl (oCa (xs := [.v false [.im 0 _], .v false [.im 0 _], .v false [.im 0 _]]) (vs := [(false, [.im 0 _])]) (v := .v false [.im 0 _]) (L_impl_within hx81) (.inl rfl) rfl kF92_2_2_2 rfl (ppC rfl (ppC rfl (ppC rfl pp0))) rfl rfl pb0 rfl rfl rfl)) trivial (sT rfl (dN z18 rfl (oUn rfl rfl rfl)) <| sD (by kernel_rfl))) ?_
                  refine Unw.seq ?_
                  by_cases hc27 : x81 = true
                  · rw [if_pos hc27] at h
                    refine Go.condF rfl (nF (Iff.rfl.2 hc27)) ?_
                    refine Go.skip ?_
                    refine Unw.blk ?_
                    exact K23 _ ⟨h, (by kernel_rfl)⟩
                  · rw [if_neg hc27] at h
                    refine Go.condT rfl (nT (byF Iff.rfl hc27)) ?_
                    refine Go.seq ?_
                    refine Go.r0 c18 rfl rfl (sq z18 (oAsI rfl rfl) <| nl) ?_
                    refine Unw.seq ?_
                    refine Go.ret (Unw.ret ?_)
                    cases h
                    exact ⟨rfl, (fin_of rfl rF18 rfl (by kernel_rfl))⟩
                · rw [if_neg hc26] at h
                  refine Go.condF rfl (byF iDec hc26) ?_
                  refine Go.skip ?_
                  refine Unw.blk ?_
                  exact K23 _ ⟨h, (by kernel_rfl)⟩
        · rw [if_neg hc17] at h
          refine Go.condF rfl (byF iDec hc17) ?_
          refine Go.exit ?_
          refine Unw.seqx ?_
          refine Unw.nil ?_
          cases h
          exact ⟨rfl, (by kernel_rfl)⟩
      · rintro ⟨e, st⟩ hp
        rcases o with u | r2
        · dsimp only at h
          obtain ⟨he, hst⟩ := hp
          obtain rfl : e = .exit 0 := he
          refine Unw.blkx ?_
          refine Unw.seq ?_
          refine Go.seq ?_
          refine Go.r1 c18 rfl rfl hst (sq z18 (oAsI rfl rfl) <| nl) ?_
          refine Unw.seq ?_
          refine Go.ret (Unw.ret ?_)
          cases h
          exact Fin_ret (fin_of rfl rF18 rfl (by kernel_rfl))
        · dsimp only at h
          obtain ⟨he, hfin⟩ := hp
          obtain rfl : e = .ret := he
          cases h
          exact Unw.ret (Fin_ret hfin)
theorem L_laws_b10Nums {a_0 : (List Int)} {b_1 : (List Int)} {r : Bool} (h : laws_b10Nums a_0 b_1 = some r) : FL Try.prog cfg 19 [.im 2 false [.row 1 (List.map eI a_0)], .im 2 false [.row 1 (List.map eI b_1)]] = some ([(false, [.im 0 (.sc (.bool r))])], []) := by
  unfold laws_b10Nums at h
  refine FL_goS (A := [(0, .v false [.im 2 (.row 1 (List.map eI a_0))]), (1, .v false [.im 2 (.row 1 (List.map eI b_1))])]) (B := [(0, none), (1, none)]) (nt := 26) rfl rfl Try.func19 rfl rfl rfl rfl ?_
  refine Go.seq ?_
  refine Go.r0 c19 rfl rfl (sq z19 (oAsI rfl rfl) <| nl) ?_
  refine Unw.seq ?_
  refine Go.seq ?_
  refine Go.seq ?_
  refine Go.r0 c19 rfl rfl (sq z19 (oMv rfl rfl) <| sq z19 (oLnI rfl rfl uF27 rfl) <| sq z19 (oMv rfl rfl) <| sq z19 (oLnI rfl rfl uF27 rfl) <| sq z19 (oBi rfl rfl rfl rfl) <| nl) ?_
  refine Unw.seq ?_
  by_cases hc1 : (a_0.length : Int) ≠ (b_1.length : Int)
  · rw [if_pos hc1] at h
    refine Go.condT rfl (iNe.2 hc1) ?_
    refine Go.seq ?_
    refine Go.r0 c19 rfl rfl (sq z19 (oAsI rfl rfl) <| nl) ?_
    refine Unw.seq ?_
    refine Go.ret (Unw.ret ?_)
    cases h
    exact Fin_ret (fin_of rfl rF19 rfl (by kernel_rfl))
  · rw [if_neg hc1] at h
    refine Go.condF rfl (byF iNe hc1) ?_
    refine Go.skip ?_
    refine Unw.seq ?_
    refine Go.seq ?_
    refine Go.seq ?_
    refine Go.r0 c19 rfl rfl (sq z19 (oAsI rfl rfl) <| nl) ?_
    refine Unw.seq ?_
    refine Go.block ?_
    obtain ⟨o, hl, h⟩ := bs h
    refine Go.lp c19 rfl _ (fun (i_5_l4 : Int) => mk [(0, .v false [.im 2 (.row 1 (List.map eI a_0))]), (1, .v false [.im 2 (.row 1 (List.map eI b_1))]), (5, iv i_5_l4)] []) (fun (o : (Unit ⊕ Bool)) (p : Ex × St) => match o with | (.inl _) => p.1 = .exit 0 ∧ p.2.norm ([], []) = mk [] [] | (.inr r2) => p.1 = .ret ∧ fin Try.prog cfg 19 Try.f19 [.im 2 false [.row 1 (List.map eI a_0)], .im 2 false [.row 1 (List.map eI b_1)]] p.2 = some ([(false, [.im 0 (.sc (.bool r2))])], [])) hl (by kernel_rfl) ?_ ?_ ?_
    · intro o p hp e
      rcases o with u | r2 <;> exact nomatch (hp.1.symm.trans e)
    · rintro i_5_l4 o h
      unfold laws_b10Nums_l4 at h
      refine Go.seq ?_
      refine Go.seq ?_
      refine Go.r0 c19 rfl rfl (sq z19 (oMv rfl rfl) <| sq z19 (oMv rfl rfl) <| sq z19 (oLnI rfl rfl uF27 rfl) <| sq z19 (oBi rfl rfl rfl rfl) <| nl) ?_
      refine Unw.seq ?_
      by_cases hc6 : i_5_l4 < (a_0.length : Int)
      · rw [if_pos hc6] at h
        refine Go.condT rfl (iDec.2 hc6) ?_
        refine Go.skip ?_
        refine Unw.seq ?_
        refine Go.seq ?_
        refine Go.block ?_
        refine Go.seq ?_
        obtain ⟨x19, hx19, h⟩ := bs h
        obtain ⟨x23, hx23, h⟩ := bs h
        refine Go.dr c19 rfl rfl rfl rfl (mk [(0, .v false [.im 2 (.row 1 (List.map eI a_0))]), (1, .v false [.im 2 (.row 1 (List.map eI b_1))]), (5, iv i_5_l4), (25, bv (x19 != x23))] []) (sT rfl (dN z19 rfl (oMv rfl rfl)) <| sT rfl (dN z19 rfl (oMv rfl rfl)) <| sT rfl (dN z19 rfl (oIAI rfl hx19 sF27 rfl rfl)) <| sT rfl (dN z19 rfl (oLd (cs := [.im 2 _]) rfl tF2 rfl rfl)) <| sT rfl (dN z19 rfl (oMv rfl rfl)) <| sT rfl (dN z19 rfl (oMv rfl rfl)) <| sT rfl (dN z19 rfl (oIAI rfl hx23 sF27 rfl rfl)) <| sT rfl (dN z19 rfl (oLd (cs := [.im 2 _]) rfl tF2 rfl rfl)) <| sT rfl (dN z19 rfl (oBi rfl rfl rfl rfl)) <| sD (by kernel_rfl)) ?_
        refine Unw.seq ?_
        by_cases hc7 : x19 ≠ x23
        · rw [if_pos hc7] at h
          refine Go.condT rfl (iNe.2 hc7) ?_
          refine Go.seq ?_
          refine Go.r0 c19 rfl rfl (sq z19 (oAsI rfl rfl) <| nl) ?_
          refine Unw.seq ?_
          refine Go.ret (Unw.ret ?_)
          cases h
          exact ⟨rfl, (fin_of rfl rF19 rfl (by kernel_rfl))⟩
        · rw [if_neg hc7] at h
          refine Go.condF rfl (byF iNe hc7) ?_
          refine Go.skip ?_
          refine Unw.blk ?_
          refine Unw.seq ?_
          refine Go.r0 c19 rfl rfl (sq z19 (oMv rfl rfl) <| sq z19 (oBi rfl rfl rfl rfl) <| sq z19 (oAsI rfl rfl) <| nl) ?_
          refine Unw.nil ?_
          cases h
          exact ⟨rfl, (by kernel_rfl)⟩
      · rw [if_neg hc6] at h
        refine Go.condF rfl (byF iDec hc6) ?_
        refine Go.exit ?_
        refine Unw.seqx ?_
        refine Unw.nil ?_
        cases h
        exact ⟨rfl, (by kernel_rfl)⟩
    · rintro ⟨e, st⟩ hp
      rcases o with u | r2
      · dsimp only at h
        obtain ⟨he, hst⟩ := hp
        obtain rfl : e = .exit 0 := he
        refine Unw.blkx ?_
        refine Unw.seq ?_
        refine Go.seq ?_
        refine Go.r1 c19 rfl rfl hst (sq z19 (oAsI rfl rfl) <| nl) ?_
        refine Unw.seq ?_
        refine Go.ret (Unw.ret ?_)
        cases h
        exact Fin_ret (fin_of rfl rF19 rfl (by kernel_rfl))
      · dsimp only at h
        obtain ⟨he, hfin⟩ := hp
        obtain rfl : e = .ret := he
        cases h
        exact Unw.ret (Fin_ret hfin)
theorem L_impl_PlanEnd_c1 {n_0 : Int} {r : Bool} (h : impl_PlanEnd_c1 n_0 = some r) : FL Try.prog cfg 96 [.im 2 false [.sc (.int .i64 n_0)]] = some ([(false, [.im 0 (.sc (.bool r))])], []) := by
  unfold impl_PlanEnd_c1 at h
  refine FL_goS (A := [(0, .v false [.im 2 (.sc (.int .i64 n_0))])]) (B := [(0, none)]) (nt := 6) rfl rfl Try.func96 rfl rfl rfl rfl ?_
  refine Go.seq ?_
  refine Go.r0 c96 rfl rfl (sq z96 (oAsI rfl rfl) <| nl) ?_
  refine Unw.seq ?_
  refine Go.seq ?_
  obtain ⟨x4, hx4, h⟩ := bs h
  refine Go.r0 c96 rfl rfl (sq z96 (oMv rfl rfl) <| sq z96 (oCa (xs := [.v false [.im 2 _], .v false [.im 0 _], .v false [.im 0 _]]) (vs := [(false, [.im 0 _])]) (v := .v false [.im 0 _]) (L_impl_within hx4) (.inl rfl) rfl kF92_2_2_2 rfl (ppC rfl (ppC rfl (ppC rfl pp0))) rfl rfl pb0 rfl rfl rfl) <| sq z96 (oUn rfl rfl rfl) <| sq z96 (oAsI rfl rfl) <| nl) ?_
  refine Unw.seq ?_
  refine Go.ret (Unw.ret ?_)
  cases h
  exact Fin_ret (fin_of rfl rF96 rfl (by kernel_rfl))
theorem L_slices_IndexFunc_int64_int64_96 {s_0 : (List Int)} {r : Int} (h : slices_IndexFunc_int64_int64 s_0 (fun b0 => impl_PlanEnd_c1 b0) = some r) : FL Try.prog cfg 150 [.im 2 false [.row 1 (List.map eI s_0)], .im 2 false [.clo 96 []]] = some ([(false, [.im 0 (.sc (.int .i64 r))])], []) := by
  unfold slices_IndexFunc_int64_int64 at h
  refine FL_goS (A := [(0, .v false [.im 2 (.row 1 (List.map eI s_0))]), (1, .v false [.im 2 (.clo 96 [])])]) (B := [(0, none), (1, none)]) (nt := 19) rfl rfl Try.func150 rfl rfl rfl rfl ?_
  refine Go.seq ?_
  refine Go.r0 c150 rfl rfl (sq z150 (oAsI rfl rfl) <| nl) ?_
  refine Unw.seq ?_
  refine Go.seq ?_
  refine Go.seq ?_
  refine Go.r0 c150 rfl rfl (sq z150 (oMv rfl rfl) <| sq z150 (oLnI rfl rfl uF27 rfl) <| sq z150 (oMv rfl rfl) <| nl) ?_
  refine Unw.seq ?_
  refine Go.block ?_
  obtain ⟨o, hl, h⟩ := bs h
  refine Go.lp c150 rfl _ (fun (t_8_l2 : Int) => mk [(0, .v false [.im 2 (.row 1 (List.map eI s_0))]), (1, .v false [.im 2 (.clo 96 [])]), (7, iv (s_0.length : Int)), (8, iv t_8_l2)] []) (fun (o : (Unit ⊕ Int)) (p : Ex × St) => match o with | (.inl _) => p.1 = .exit 0 ∧ p.2.norm ([], []) = mk [] [] | (.inr r2) => p.1 = .ret ∧ fin Try.prog cfg 150 Try.f150 [.im 2 false [.row 1 (List.map eI s_0)], .im 2 false [.clo 96 []]] p.2 = some ([(false, [.im 0 (.sc (.int .i64 r2))])], [])) hl (by kernel_rfl) ?_ ?_ ?_
  · intro o p hp e
    rcases o with u | r2 <;> exact nomatch (hp.1.symm.trans e)
  · rintro t_8_l2 o h
    unfold slices_IndexFunc_int64_int64_l2 at h
    refine Go.seq ?_
    refine Go.r0 c150 rfl rfl (sq z150 (oBi rfl rfl rfl rfl) <| nl) ?_
    refine Unw.seq ?_
    refine Go.seq ?_
    by_cases hc5 : t_8_l2 < (s_0.length : Int)
    · rw [if_pos hc5] at h
      refine Go.condT rfl (iDec.2 hc5) ?_
      refine Go.skip ?_
      refine Unw.seq ?_
      refine Go.seq ?_
      refine Go.block ?_
      refine Go.seq ?_
      refine Go.r0 c150 rfl rfl (sq z150 (oMv rfl rfl) <| sq z150 (oAsI rfl rfl) <| nl) ?_
      refine Unw.seq ?_
      refine Go.seq ?_
      obtain ⟨x14, hx14, h⟩ := bs h
      obtain ⟨x16, hx16, h⟩ := bs h
      refine Go.r0 c150 rfl rfl (sq z150 (oMv rfl rfl) <| sq z150 (oMv rfl rfl) <| sq z150 (oMv rfl rfl) <| sq z150 (oIAI rfl hx14 sF27 rfl rfl) <| sq z150 (oLd (cs := [.im 2 _]) rfl tF2 rfl rfl) <| sq z150 (oCa (xs := [.v false [.im 2 _]]) (vs := [(false, [.im 0 _])]) (v := .v false [.im 0 _]) (L_impl_PlanEnd_c1 hx16) (.inr ⟨_, _, rfl, rfl⟩) rfl kF96_2 rfl (ppC rfl pp0) rfl rfl pb0 rfl rfl rfl) <| nl) ?_
      refine Unw.seq ?_
      by_cases hc6 : x16 = true
      · rw [if_pos hc6] at h
        refine Go.condT rfl (Iff.rfl.2 hc6) ?_
        refine Go.seq ?_
        refine Go.r0 c150 rfl rfl (sq z150 (oMv rfl rfl) <| sq z150 (oAsI rfl rfl) <| nl) ?_
        refine Unw.seq ?_
        refine Go.ret (Unw.ret ?_)
        cases h
        exact ⟨rfl, (fin_of rfl rF150 rfl (by kernel_rfl))⟩
      · rw [if_neg hc6] at h
        refine Go.condF rfl (byF Iff.rfl hc6) ?_
        refine Go.skip ?_
        refine Unw.blk ?_
        refine Unw.seq ?_
        refine Go.r0 c150 rfl rfl (sq z150 (oBi rfl rfl rfl rfl) <| sq z150 (oMv rfl rfl) <| nl) ?_
        refine Unw.nil ?_
        cases h
        exact ⟨rfl, (by kernel_rfl)⟩
    · rw [if_neg hc5] at h
      refine Go.condF rfl (byF iDec hc5) ?_
      refine Go.exit ?_
      refine Unw.seqx ?_
      refine Unw.nil ?_
      cases h
      exact ⟨rfl, (by kernel_rfl)⟩
  · rintro ⟨e, st⟩ hp
    rcases o with u | r2
    · dsimp only at h
      obtain ⟨he, hst⟩ := hp
      obtain rfl : e = .exit 0 := he
      refine Unw.blkx ?_
      refine Unw.seq ?_
      refine Go.seq ?_
      refine Go.r1 c150 rfl rfl hst (sq z150 (oAsI rfl rfl) <| nl) ?_
      refine Unw.seq ?_
      refine Go.ret (Unw.ret ?_)
      cases h
      exact Fin_ret (fin_of rfl rF150 rfl (by kernel_rfl))
    · dsimp only at h
      obtain ⟨he, hfin⟩ := hp
      obtain rfl : e = .ret := he
      cases h
      exact Unw.ret (Fin_ret hfin)
theorem L_slices_ContainsFunc_int64_int64_96 {s_0 : (List Int)} {r : Bool} (h : slices_ContainsFunc_int64_int64 s_0 (fun b0 => impl_PlanEnd_c1 b0) = some r) : FL Try.prog cfg 95 [.im 2 false [.row 1 (List.map eI s_0)], .im 2 false [.clo 96 []]] = some ([(false, [.im 0 (.sc (.bool r))])], []) := by
  unfold slices_ContainsFunc_int64_int64 at h
  refine FL_goS (A := [(0, .v false [.im 2 (.row 1 (List.map eI s_0))]), (1, .v false [.im 2 (.clo 96 [])])]) (B := [(0, none), (1, none)]) (nt := 9) rfl rfl Try.func95 rfl rfl rfl rfl ?_
  refine Go.seq ?_
  refine Go.r0 c95 rfl rfl (sq z95 (oAsI rfl rfl) <| nl) ?_
  refine Unw.seq ?_
  refine Go.seq ?_
  obtain ⟨x7, hx7, h⟩ := bs h
  refine Go.r0 c95 rfl rfl (sq z95 (oMv rfl rfl) <| sq z95 (oMv rfl rfl) <| sq z95 (oCa (xs := [.v false [.im 2 _], .v false [.im 2 _]]) (vs := [(false, [.im 0 _])]) (v := .v false [.im 0 _]) (L_slices_IndexFunc_int64_int64_96 hx7) (.inl rfl) rfl kF150_27_139 rfl (ppC rfl (ppC rfl pp0)) rfl rfl pb0 rfl rfl rfl) <| sq z95 (oBi rfl rfl rfl rfl) <| sq z95 (oAsI rfl rfl) <| nl) ?_
  refine Unw.seq ?_
  refine Go.ret (Unw.ret ?_)
  cases h
  exact Fin_ret (fin_of rfl rF95 rfl (by kernel_rfl))
theorem L_impl_PlanEnd {list_0 : (List S_Coat)} {begins_1 : (List Int)} {r : (Int × Int)} (h : impl_PlanEnd list_0 begins_1 = some r) : FL Try.prog cfg 20 [.im 2 false [.row 4 (List.map e_S_Coat list_0)], .im 2 false [.row 1 (List.map eI begins_1)]] = some ([(false, [.im 0 (.sc (.int .i64 r.1))]), (false, [.im 0 (.sc (.int .i64 r.2))])], []) := by
  unfold impl_PlanEnd at h
  refine FL_goS (A := [(0, .v false [.im 2 (.row 4 (List.map e_S_Coat list_0))]), (1, .v false [.im 2 (.row 1 (List.map eI begins_1))])]) (B := [(0, none), (1, none)]) (nt := 35) rfl rfl Try.func20 rfl rfl rfl rfl ?_
  refine Go.seq ?_
  refine Go.r0 c20 rfl rfl (sq z20 (oAsI rfl rfl) <| sq z20 (oAsI rfl rfl) <| nl) ?_
  refine Unw.seq ?_
  refine Go.seq ?_
  refine Go.seq ?_
  obtain ⟨x8, hx8, h⟩ := bs h
  refine Go.r0 c20 rfl rfl (sq z20 (oMv rfl rfl) <| sq z20 (oCa (xs := [.v false [.im 2 _]]) (vs := [(false, [.im 0 _])]) (v := .v false [.im 0 _]) (L_impl_ValidCoats hx8) (.inl rfl) rfl kF91_24 rfl (ppC rfl pp0) rfl rfl pb0 rfl rfl rfl) <| sq z20 (oUn rfl rfl rfl) <| nl) ?_
  refine Unw.seq ?_
  by_cases hc1 : x8 = true
  · rw [if_pos hc1] at h
    refine Go.condF rfl (nF (Iff.rfl.2 hc1)) ?_
    refine Go.skip ?_
    refine Unw.seq ?_
    refine Go.seq ?_
    refine Go.seq ?_
    obtain ⟨t_18_m3, hm5, h⟩ := bs h
    refine Go.rX c20 rfl rfl rfl (mk [(0, .v false [.im 2 (.row 4 (List.map e_S_Coat list_0))]), (1, .v false [.im 2 (.row 1 (List.map eI begins_1))]), (18, bv t_18_m3)] []) ?_ ?_
    · by_cases hc2 : (begins_1.length : Int) ≠ (list_0.length : Int)
      · rw [if_pos hc2] at hm5
        cases hm5
        exact ⟨_, sq z20 (oMv rfl rfl) <| sq z20 (oLnI rfl rfl uF27 rfl) <| sq z20 (oMv rfl rfl) <| sq z20 (oLnI rfl rfl uF24 rfl) <| sq z20 (oBi rfl rfl rfl rfl) <| sq z20 (oMv rfl rfl) <| sgF rfl rfl (iNe.2 hc2) rfl <| sgF rfl rfl (iNe.2 hc2) rfl <| sq z20 (oPkT rfl rfl (iNe.2 hc2) rfl) <| nl, (by kernel_rfl)⟩
      · rw [if_neg hc2] at hm5
        obtain ⟨x17, hx17, hm5⟩ := bs hm5
        cases hm5
        exact ⟨_, sq z20 (oMv rfl rfl) <| sq z20 (oLnI rfl rfl uF27 rfl) <| sq z20 (oMv rfl rfl) <| sq z20 (oLnI rfl rfl uF24 rfl) <| sq z20 (oBi rfl rfl rfl rfl) <| sq z20 (oMv rfl rfl) <| sgT z20 rfl rfl (byF iNe hc2) (oMv rfl rfl) <| sgT z20 rfl rfl (byF iNe hc2) (oCa (xs := [.v false [.im 2 _], .fn 96 []]) (vs := [(false, [.im 0 _])]) (v := .v false [.im 0 _]) (L_slices_ContainsFunc_int64_int64_96 hx17) (.inl rfl) rfl kF95_27_139 rfl (ppC rfl (ppC rfl pp0)) rfl rfl pb0 rfl rfl rfl) <| sq z20 (oPkF rfl rfl (byF iNe hc2) rfl) <| nl, (by kernel_rfl)⟩
    · refine Unw.seq ?_
      by_cases hc3 : t_18_m3 = true
      · rw [if_pos hc3] at h
        refine Go.condT rfl (Iff.rfl.2 hc3) ?_
        refine Go.seq ?_
        refine Go.r0 c20 rfl rfl (sq z20 (oAsI rfl rfl) <| sq z20 (oAsI rfl rfl) <| nl) ?_
        refine Unw.seq ?_
        refine Go.ret (Unw.ret ?_)
        cases h
        exact Fin_ret (fin_of rfl rF20 rfl (by kernel_rfl))
      · rw [if_neg hc3] at h
        refine Go.condF rfl (byF Iff.rfl hc3) ?_
        refine Go.skip ?_
        refine Unw.seq ?_
        refine Go.seq ?_
        refine Go.seq ?_
        refine Go.r0 c20 rfl rfl (sq z20 (oMv rfl rfl) <| sq z20 (oLnI rfl rfl uF24 rfl) <| sq z20 (oBi rfl rfl rfl rfl) <| nl) ?_
        refine Unw.seq ?_
        by_cases hc4 : (list_0.length : Int) = 0
        · rw [if_pos hc4] at h
          refine Go.condT rfl (iEq.2 hc4) ?_
          refine Go.seq ?_
          refine Go.r0 c20 rfl rfl (sq z20 (oAsI rfl rfl) <| sq z20 (oAsI rfl rfl) <| nl) ?_
          refine Unw.seq ?_
          refine Go.ret (Unw.ret ?_)
          cases h
          exact Fin_ret (fin_of rfl rF20 rfl (by kernel_rfl))
        · rw [if_neg hc4] at h
          refine Go.condF rfl (byF iEq hc4) ?_
          refine Go.skip ?_
          refine Unw.seq ?_
          refine Go.seq ?_
          refine Go.r0 c20 rfl rfl (sq z20 (oMv rfl rfl) <| sq z20 (oLnI rfl rfl uF24 rfl) <| sq z20 (oBi rfl rfl rfl rfl) <| sq z20 (oAsI rfl rfl) <| nl) ?_
          refine Unw.seq ?_
          refine Go.seq ?_
          obtain ⟨x27, hx27, h⟩ := bs h
          obtain ⟨x31, hx31, h⟩ := bs h
          refine Go.dr c20 rfl rfl rfl rfl (mk [(4, iv (w64 (x27 + x31.Work))), (5, iv 0)] []) (sT rfl (dN z20 rfl (oMv rfl rfl)) <| sT rfl (dN z20 rfl (oMv rfl rfl)) <| sT rfl (dN z20 rfl (oIAI rfl hx27 sF27 rfl rfl)) <| sT rfl (dN z20 rfl (oLd (cs := [.im 2 _]) rfl tF2 rfl rfl)) <| sT rfl (dN z20 rfl (oMv rfl rfl)) <| sT rfl (dN z20 rfl (oMv rfl rfl)) <| sT rfl (dN z20 rfl (oIAI rfl hx31 sF24 rfl rfl)) <| sT rfl (dN z20 rfl (oFA (r' := .im 2 _) rfl fF128_1 rfl rfl)) <| sT rfl (dN z20 rfl (oLd (cs := [.im 2 _]) rfl tF2 rfl rfl)) <| sT rfl (dN z20 rfl (oBi rfl rfl rfl rfl)) <| sS (dN z20 rfl (oAsI rfl rfl)) trivial (sS (dN z20 rfl (oAsI rfl rfl)) trivial (sD (by kernel_rfl)))) ?_
          refine Unw.seq ?_
          refine Go.ret (Unw.ret ?_)
          cases h
          exact Fin_ret (fin_of rfl rF20 rfl (by kernel_rfl))
  · rw [if_neg hc1] at h
    refine Go.condT rfl (nT (byF Iff.rfl hc1)) ?_
    refine Go.seq ?_
    refine Go.r0 c20 rfl rfl (sq z20 (oAsI rfl rfl) <| sq z20 (oAsI rfl rfl) <| nl) ?_
    refine Unw.seq ?_
    refine Go.ret (Unw.ret ?_)
    cases h
    exact Fin_ret (fin_of rfl rF20 rfl (by kernel_rfl))
theorem L_impl_WorkingTime {list_0 : (List S_Coat)} {r : (Int × Int)} (h : impl_WorkingTime list_0 = some r) : FL Try.prog cfg 21 [.im 2 false [.row 4 (List.map e_S_Coat list_0)]] = some ([(false, [.im 0 (.sc (.int .i64 r.1))]), (false, [.im 0 (.sc (.int .i64 r.2))])], []) := by
  unfold impl_WorkingTime at h
  refine FL_goS (A := [(0, .v false [.im 2 (.row 4 (List.map e_S_Coat list_0))])]) (B := [(0, none)]) (nt := 22) rfl rfl Try.func21 rfl rfl rfl rfl ?_
  refine Go.seq ?_
  refine Go.r0 c21 rfl rfl (sq z21 (oAsI rfl rfl) <| sq z21 (oAsI rfl rfl) <| nl) ?_
  refine Unw.seq ?_
  refine Go.seq ?_
  refine Go.seq ?_
  obtain ⟨x8, hx8, h⟩ := bs h
  refine Go.r0 c21 rfl rfl (sq z21 (oMv rfl rfl) <| sq z21 (oCa (xs := [.v false [.im 2 _]]) (vs := [(false, [.im 0 _])]) (v := .v false [.im 0 _]) (L_impl_ValidCoats hx8) (.inl rfl) rfl kF91_24 rfl (ppC rfl pp0) rfl rfl pb0 rfl rfl rfl) <| sq z21 (oUn rfl rfl rfl) <| nl) ?_
  refine Unw.seq ?_
  by_cases hc1 : x8 = true
  · rw [if_pos hc1] at h
    refine Go.condF rfl (nF (Iff.rfl.2 hc1)) ?_
    refine Go.skip ?_
    refine Unw.seq ?_
    refine Go.seq ?_
    refine Go.r0 c21 rfl rfl (sq z21 (oAsI rfl rfl) <| nl) ?_
    refine Unw.seq ?_
    refine Go.seq ?_
    refine Go.seq ?_
    refine Go.r0 c21 rfl rfl (sq z21 (oMv rfl rfl) <| sq z21 (oLnI rfl rfl uF24 rfl) <| sq z21 (oMv rfl rfl) <| nl) ?_
    refine Unw.seq ?_
    refine Go.block ?_
    obtain ⟨o, hl, h⟩ := bs h
    refine Go.lp c21 rfl _ (fun (s : (Int × Int)) => match s with | (sum_4_l5, t_12_l5) => mk [(4, iv sum_4_l5), (10, .v false [.im 2 (.row 4 (List.map e_S_Coat list_0))]), (11, iv (list_0.length : Int)), (12, iv t_12_l5)] []) (fun (sum_4_e0_5 : Int) (p : Ex × St) => p.1 = .exit 0 ∧ p.2.norm ([4], []) = mk [(4, iv sum_4_e0_5)] []) hl (by kernel_rfl) ?_ ?_ ?_
    · intro o p hp e
      exact nomatch (hp.1.symm.trans e)
    · rintro ⟨sum_4_l5, t_12_l5⟩ o h
      unfold impl_WorkingTime_l5 at h
      dsimp only at h
      refine Go.seq ?_
      refine Go.r0 c21 rfl rfl (sq z21 (oBi rfl rfl rfl rfl) <| nl) ?_
      refine Unw.seq ?_
      refine Go.seq ?_
      by_cases hc4 : t_12_l5 < (list_0.length : Int)
      · rw [if_pos hc4] at h
        refine Go.condT rfl (iDec.2 hc4) ?_
        refine Go.skip ?_
        refine Unw.seq ?_
        refine Go.seq ?_
        refine Go.block ?_
        refine Go.seq ?_
        obtain ⟨x14, hx14, h⟩ := bs h
        refine Go.r0 c21 rfl rfl (sq z21 (oIAI rfl hx14 sF24 rfl rfl) <| sq z21 (oLd (cs := [.im 2 _, .im 2 _, .im 2 _, .im 2 _]) rfl tF128 rfl rfl) <| sq z21 (oAl rfl tF128 (tkI (tkI (tkI (tkI tk0))))) <| sq z21 (oSt tF128 rfl rfl rfl (tkI (tkI (tkI (tkI tk0)))) rfl rfl rfl) <| nl) ?_
        refine Unw.seq ?_
        refine Go.r1 c21 rfl rfl (st1 := mk [(4, iv sum_4_l5), (6, .v false [.mp 6 0 0]), (10, .v false [.im 2 (.row 4 (List.map e_S_Coat list_0))]), (11, iv (list_0.length : Int)), (12, iv t_12_l5)] [(6, some ⟨0, 0, false, true, false, true, [⟨.imm, 0, 0, .sc (.string x14.Name)⟩, ⟨.imm, 0, 0, .sc (.int .i64 x14.Work)⟩, ⟨.imm, 0, 0, .sc (.int .i64 x14.Dry)⟩, ⟨.imm, 0, 0, .sc (.int .i64 x14.Wait)⟩]⟩)]) (by kernel_rfl) (sq z21 (oMv rfl rfl) <| sq z21 (oFA (r' := .mp 6 0 1) rfl fF128_1 rfl rfl) <| sq z21 (oLd (cs := [.im 0 _]) rfl tF2 rfl rfl) <| sq z21 (oBi rfl rfl rfl rfl) <| sq z21 (oAsI rfl rfl) <| nl) ?_
        refine Unw.blk ?_
        refine Unw.seq ?_
        refine Go.r0 c21 rfl rfl (sq z21 (oBi rfl rfl rfl rfl) <| sq z21 (oMv rfl rfl) <| nl) ?_
        refine Unw.nil ?_
        cases h
        exact ⟨rfl, (by kernel_rfl)⟩
      · rw [if_neg hc4] at h
        refine Go.condF rfl (byF iDec hc4) ?_
        refine Go.exit ?_
        refine Unw.seqx ?_
        refine Unw.nil ?_
        cases h
        exact ⟨rfl, (by kernel_rfl)⟩
    · rintro ⟨e, st⟩ hp
      obtain ⟨sum_4_e0_5, rfl⟩ : ∃ y, y = o := ⟨o, rfl⟩
      obtain ⟨he, hst⟩ := hp
      obtain rfl : e = .exit 0 := he
      refine Unw.blkx ?_
      refine Unw.seq ?_
      refine Go.seq ?_
      refine Go.r1 c21 rfl rfl hst (sq z21 (oMv rfl rfl) <| sq z21 (oAsI rfl rfl) <| sq z21 (oAsI rfl rfl) <| nl) ?_
      refine Unw.seq ?_
      refine Go.ret (Unw.ret ?_)
      cases h
      exact Fin_ret (fin_of rfl rF21 rfl (by kernel_rfl))
  · rw [if_neg hc1] at h
    refine Go.condT rfl (nT (byF Iff.rfl hc1)) ?_
    refine Go.seq ?_
    refine Go.r0 c21 rfl rfl (sq z21 (oAsI rfl rfl) <| sq z21 (oAsI rfl rfl) <| nl) ?_
    refine Unw.seq ?_
    refine Go.ret (Unw.ret ?_)
    cases h
    exact Fin_ret (fin_of rfl rF21 rfl (by kernel_rfl))
theorem L_spec_DrawNextOpen {code_0 : (List Int)} {r : (Int × Int × Int × Int)} (h : spec_DrawNextOpen code_0 = some r) : FL Try.prog cfg 22 [.im 2 false [.row 1 (List.map (eK .u8) code_0)]] = some ([(false, [.im 0 (.sc (.int .i64 r.1))]), (false, [.im 0 (.sc (.int .i64 r.2.1))]), (false, [.im 0 (.sc (.int .i64 r.2.2.1))]), (false, [.im 0 (.sc (.int .i64 r.2.2.2))])], []) := by
  unfold spec_DrawNextOpen at h
  refine FL_goS (A := [(0, .v false [.im 2 (.row 1 (List.map (eK .u8) code_0))])]) (B := [(0, none)]) (nt := 25) rfl rfl Try.func22 rfl rfl rfl rfl ?_
  refine Go.seq ?_
  refine Go.r0 c22 rfl rfl (sq z22 (oAsI rfl rfl) <| sq z22 (oAsI rfl rfl) <| sq z22 (oAsI rfl rfl) <| sq z22 (oAsI rfl rfl) <| nl) ?_
  refine Unw.seq ?_
  refine Go.seq ?_
  obtain ⟨x11, hx11, h⟩ := bs h
  refine Go.r0 c22 rfl rfl (sq z22 (oMv rfl rfl) <| sq z22 (oCp (xs := [.v false [.im 2 _]]) (L_spec_l00From hx11) (.inl rfl) rfl kF85_22 rfl (ppC rfl pp0) rfl rfl pb0 rfl) <| sq z22 (oAsP rfl rfl) <| nl) ?_
  refine Unw.seq ?_
  refine Go.seq ?_
  obtain ⟨x13, hx13, h⟩ := bs h
  refine Go.r0 c22 rfl rfl (sq z22 (oMv rfl rfl) <| sq z22 (oCa (xs := [.v false [.mp 11 0 0]]) (vs := [(false, [.im 0 _])]) (v := .v false [.im 0 _]) (L_spec_l22DrawTime hx13) (.inl rfl) rfl kF97_121 rfl (ppP rfl rfl rfl pp0) rfl rfl (pbP rfl rfl pb0) rfl rfl rfl) <| sq z22 (oAsI rfl rfl) <| nl) ?_
  refine Unw.seq ?_
  refine Go.seq ?_
  obtain ⟨x16, hx16, h⟩ := bs h
  refine Go.r1 c22 rfl rfl (st1 := mk [(6, .v false [.mp 11 0 0]), (7, iv x13.1)] [(11, some ⟨0, 0, false, true, false, true, [⟨.imm, 0, 2, .row 1 (List.map (eK .u8) x13.2.code)⟩, ⟨.imm, 0, 0, .sc (.int .i64 x13.2.at_)⟩, ⟨.imm, 0, 0, .sc (.int .u64 x13.2.seed)⟩]⟩)]) (by kernel_rfl) (sq z22 (oMv rfl rfl) <| sq z22 (oCa (xs := [.v false [.mp 11 0 0]]) (vs := [(false, [.im 0 _]), (false, [.im 0 _])]) (v := .tup [(false, [.im 0 _]), (false, [.im 0 _])]) (L_spec_l22DrawHours hx16) (.inl rfl) rfl kF98_121 rfl (ppP rfl rfl rfl pp0) rfl rfl (pbP rfl rfl pb0) rfl rfl rfl) <| sq z22 (oMvT rfl rfl) <| sq z22 (oEx rfl rfl rfl) <| sq z22 (oEx rfl rfl rfl) <| sq z22 (oAsI rfl rfl) <| sq z22 (oAsI rfl rfl) <| nl) ?_
  refine Unw.seq ?_
  refine Go.seq ?_
  obtain ⟨x24, hx24, h⟩ := bs h
  refine Go.r1 c22 rfl rfl (st1 := mk [(6, .v false [.mp 11 0 0]), (7, iv x13.1), (8, iv x16.1), (9, iv x16.2.1)] [(11, some ⟨0, 0, false, true, false, true, [⟨.imm, 0, 2, .row 1 (List.map (eK .u8) x16.2.2.code)⟩, ⟨.imm, 0, 0, .sc (.int .i64 x16.2.2.at_)⟩, ⟨.imm, 0, 0, .sc (.int .u64 x16.2.2.seed)⟩]⟩)]) (by kernel_rfl) (sq z22 (oMv rfl rfl) <| sq z22 (oMv rfl rfl) <| sq z22 (oMv rfl rfl) <| sq z22 (oMv rfl rfl) <| sq z22 (oBS (es := List.map eI ([1, 4, 9, 32, 33, 0] : List Int)) rfl sF27 rfl (ptC rfl (fxI fx0) rfl (ptC rfl (fxI fx0) rfl (ptC rfl (fxI fx0) rfl (ptC rfl (fxI fx0) rfl (ptC rfl (fxI fx0) rfl (ptC rfl (fxI fx0) rfl pt0)))))) (flat0 rfl fun _ => rfl)) <| sq z22 (oCa (xs := [.v false [.mp 11 0 0], .v false [.own 23 0 0]]) (vs := [(false, [.im 0 _])]) (v := .v false [.im 0 _]) (L_spec_l00Src_among hx24) (.inl rfl) rfl kF99_121_27 rfl (ppP rfl rfl rfl (ppC rfl pp0)) rfl rfl (pbP rfl rfl pb0) rfl rfl rfl) <| sq z22 (oAsI rfl rfl) <| sq z22 (oAsI rfl rfl) <| sq z22 (oAsI rfl rfl) <| sq z22 (oAsI rfl rfl) <| nl) ?_
  refine Unw.seq ?_
  refine Go.ret (Unw.ret ?_)
  cases h
  exact Fin_ret (fin_of rfl rF22 rfl (by kernel_rfl))
theorem L_impl_NextOpen {time_0 : Int} {open_1 : Int} {end_2 : Int} {work_3 : Int} {r : (Int × Int)} (h : impl_NextOpen time_0 open_1 end_2 work_3 = some r) : FL Try.prog cfg 23 [.im 2 false [.sc (.int .i64 time_0)], .im 2 false [.sc (.int .i64 open_1)], .im 2 false [.sc (.int .i64 end_2)], .im 2 false [.sc (.int .i64 work_3)]] = some ([(false, [.im 0 (.sc (.int .i64 r.1))]), (false, [.im 0 (.sc (.int .i64 r.2))])], []) := by
  unfold impl_NextOpen at h
  refine FL_goS (A := [(0, .v false [.im 2 (.sc (.int .i64 time_0))]), (1, .v false [.im 2 (.sc (.int .i64 open_1))]), (2, .v false [.im 2 (.sc (.int .i64 end_2))]), (3, .v false [.im 2 (.sc (.int .i64 work_3))])]) (B := [(0, none), (1, none), (2, none), (3, none)]) (nt := 36) rfl rfl Try.func23 rfl rfl rfl rfl ?_
  refine Go.seq ?_
  refine Go.r0 c23 rfl rfl (sq z23 (oAsI rfl rfl) <| sq z23 (oAsI rfl rfl) <| nl) ?_
  refine Unw.seq ?_
  refine Go.seq ?_
  refine Go.block ?_
  refine Go.seq ?_
  obtain ⟨x12, hx12, h⟩ := bs h
  obtain ⟨t_10_m1, hm5, h⟩ := bs h
  refine Go.rX c23 rfl rfl rfl (mk [(0, iv time_0), (1, iv open_1), (2, iv end_2), (3, iv work_3), (10, bv t_10_m1)] []) ?_ ?_
  · by_cases hc1 : x12 = true
    · rw [if_pos hc1] at hm5
      obtain ⟨x17, hx17, hm5⟩ := bs hm5
      by_cases hc2 : x17 = true
      · rw [if_pos hc2] at hm5
        obtain ⟨x22, hx22, hm5⟩ := bs hm5
        cases hm5
        exact ⟨_, sq z23 (oMv rfl rfl) <| sq z23 (oCa (xs := [.v false [.im 2 _], .v false [.im 0 _], .v false [.im 0 _]]) (vs := [(false, [.im 0 _])]) (v := .v false [.im 0 _]) (L_impl_within hx12) (.inl rfl) rfl kF92_2_2_2 rfl (ppC rfl (ppC rfl (ppC rfl pp0))) rfl rfl pb0 rfl rfl rfl) <| sq z23 (oUn rfl rfl rfl) <| sq z23 (oMv rfl rfl) <| sgT z23 rfl rfl (nF (Iff.rfl.2 hc1)) (oMv rfl rfl) <| sgT z23 rfl rfl (nF (Iff.rfl.2 hc1)) (oMv rfl rfl) <| sgT z23 rfl rfl (nF (Iff.rfl.2 hc1)) (oCa (xs := [.v false [.im 2 _], .v false [.im 2 _]]) (vs := [(false, [.im 0 _])]) (v := .v false [.im 0 _]) (L_impl_areHours hx17) (.inl rfl) rfl kF93_2_2 rfl (ppC rfl (ppC rfl pp0)) rfl rfl pb0 rfl rfl rfl) <| sgT z23 rfl rfl (nF (Iff.rfl.2 hc1)) (oUn rfl rfl rfl) <| sq z23 (oPkF rfl rfl (nF (Iff.rfl.2 hc1)) rfl) <| sq z23 (oMv rfl rfl) <| sgT z23 rfl rfl (nF (Iff.rfl.2 hc2)) (oMv rfl rfl) <| sgT z23 rfl rfl (nF (Iff.rfl.2 hc2)) (oCa (xs := [.v false [.im 2 _], .v false [.im 0 _], .v false [.im 0 _]]) (vs := [(false, [.im 0 _])]) (v := .v false [.im 0 _]) (L_impl_within hx22) (.inl rfl) rfl kF92_2_2_2 rfl (ppC rfl (ppC rfl (ppC rfl pp0))) rfl rfl pb0 rfl rfl rfl) <| sgT z23 rfl rfl (nF (Iff.rfl.2 hc2)) (oUn rfl rfl rfl) <| sq z23 (oPkF rfl rfl (nF (Iff.rfl.2 hc2)) rfl) <| sq z23 (oAsI rfl rfl) <| nl, (by kernel_rfl)⟩
      · rw [if_neg hc2] at hm5
        cases hm5
        exact ⟨_, sq z23 (oMv rfl rfl) <| sq z23 (oCa (xs := [.v false [.im 2 _], .v false [.im 0 _], .v false [.im 0 _]]) (vs := [(false, [.im 0 _])]) (v := .v false [.im 0 _]) (L_impl_within hx12) (.inl rfl) rfl kF92_2_2_2 rfl (ppC rfl (ppC rfl (ppC rfl pp0))) rfl rfl pb0 rfl rfl rfl) <| sq z23 (oUn rfl rfl rfl) <| sq z23 (oMv rfl rfl) <| sgT z23 rfl rfl (nF (Iff.rfl.2 hc1)) (oMv rfl rfl) <| sgT z23 rfl rfl (nF (Iff.rfl.2 hc1)) (oMv rfl rfl) <| sgT z23 rfl rfl (nF (Iff.rfl.2 hc1)) (oCa (xs := [.v false [.im 2 _], .v false [.im 2 _]]) (vs := [(false, [.im 0 _])]) (v := .v false [.im 0 _]) (L_impl_areHours hx17) (.inl rfl) rfl kF93_2_2 rfl (ppC rfl (ppC rfl pp0)) rfl rfl pb0 rfl rfl rfl) <| sgT z23 rfl rfl (nF (Iff.rfl.2 hc1)) (oUn rfl rfl rfl) <| sq z23 (oPkF rfl rfl (nF (Iff.rfl.2 hc1)) rfl) <| sq z23 (oMv rfl rfl) <| sgF rfl rfl (nT (byF Iff.rfl hc2)) rfl <| sgF rfl rfl (nT (byF Iff.rfl hc2)) rfl <| sgF rfl rfl (nT (byF Iff.rfl hc2)) rfl <| sq z23 (oPkT rfl rfl (nT (byF Iff.rfl hc2)) rfl) <| sq z23 (oAsI rfl rfl) <| nl, (by kernel_rfl)⟩
    · rw [if_neg hc1] at hm5
      cases hm5
      exact ⟨_, sq z23 (oMv rfl rfl) <| sq z23 (oCa (xs := [.v false [.im 2 _], .v false [.im 0 _], .v false [.im 0 _]]) (vs := [(false, [.im 0 _])]) (v := .v false [.im 0 _]) (L_impl_within hx12) (.inl rfl) rfl kF92_2_2_2 rfl (ppC rfl (ppC rfl (ppC rfl pp0))) rfl rfl pb0 rfl rfl rfl) <| sq z23 (oUn rfl rfl rfl) <| sq z23 (oMv rfl rfl) <| sgF rfl rfl (nT (byF Iff.rfl hc1)) rfl <| sgF rfl rfl (nT (byF Iff.rfl hc1)) rfl <| sgF rfl rfl (nT (byF Iff.rfl hc1)) rfl <| sgF rfl rfl (nT (byF Iff.rfl hc1)) rfl <| sq z23 (oPkT rfl rfl (nT (byF Iff.rfl hc1)) rfl) <| sq z23 (oMv rfl rfl) <| sgF rfl rfl rfl rfl <| sgF rfl rfl rfl rfl <| sgF rfl rfl rfl rfl <| sq z23 (oPkT rfl rfl rfl rfl) <| sq z23 (oAsI rfl rfl) <| nl, (by kernel_rfl)⟩
  · refine Unw.seq ?_
    by_cases hc3 : t_10_m1 = true
    · rw [if_pos hc3] at h
      refine Go.condT rfl (Iff.rfl.2 hc3) ?_
      refine Go.seq ?_
      refine Go.r0 c23 rfl rfl (sq z23 (oAsI rfl rfl) <| sq z23 (oAsI rfl rfl) <| nl) ?_
      refine Unw.seq ?_
      refine Go.ret (Unw.ret ?_)
      cases h
      exact Fin_ret (fin_of rfl rF23 rfl (by kernel_rfl))
    · rw [if_neg hc3] at h
      refine Go.condF rfl (byF Iff.rfl hc3) ?_
      refine Go.seq ?_
      refine Go.r0 c23 rfl rfl (sq z23 (oMv rfl rfl) <| sq z23 (oMv rfl rfl) <| sq z23 (oBi rfl rfl rfl rfl) <| sq z23 (oMv rfl rfl) <| sq z23 (oBi rfl rfl rfl rfl) <| sq z23 (oAsI rfl rfl) <| nl) ?_
      refine Unw.seq ?_
      by_cases hc4 : (w64 (end_2 - open_1)) < work_3
      · rw [if_pos hc4] at h
        refine Go.condT rfl (iDec.2 hc4) ?_
        refine Go.seq ?_
        refine Go.r0 c23 rfl rfl (sq z23 (oAsI rfl rfl) <| sq z23 (oAsI rfl rfl) <| nl) ?_
        refine Unw.seq ?_
        refine Go.ret (Unw.ret ?_)
        cases h
        exact Fin_ret (fin_of rfl rF23 rfl (by kernel_rfl))
      · rw [if_neg hc4] at h
        refine Go.condF rfl (byF iDec hc4) ?_
        refine Go.skip ?_
        refine Unw.blk ?_
        refine Unw.seq ?_
        refine Go.seq ?_
        obtain ⟨x35, hx35, h⟩ := bs h
        refine Go.r0 c23 rfl rfl (sq z23 (oMv rfl rfl) <| sq z23 (oMv rfl rfl) <| sq z23 (oMv rfl rfl) <| sq z23 (oMv rfl rfl) <| sq z23 (oCa (xs := [.v false [.im 0 _], .v false [.im 0 _], .v false [.im 0 _], .v false [.im 0 _]]) (vs := [(false, [.im 0 _])]) (v := .v false [.im 0 _]) (L_impl_nextOpen hx35) (.inl rfl) rfl kF89_2_2_2_2 rfl (ppC rfl (ppC rfl (ppC rfl (ppC rfl pp0)))) rfl rfl pb0 rfl rfl rfl) <| sq z23 (oAsI rfl rfl) <| sq z23 (oAsI rfl rfl) <| nl) ?_
        refine Unw.seq ?_
        refine Go.ret (Unw.ret ?_)
        cases h
        exact Fin_ret (fin_of rfl rF23 rfl (by kernel_rfl))
end
end Go.Proofs.Ytigjhjlkdamncaa
