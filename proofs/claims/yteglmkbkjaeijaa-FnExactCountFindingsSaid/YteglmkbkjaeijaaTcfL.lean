/- The machine answers, at each function of the program that is reached, what its plain function answers. Conditions: none. -/
import Derived.Test.YteglmkbkjaeijaaProg
import Derived.KernelRfl
import Derived.Test.YteglmkbkjaeijaaSimRf
import Derived.Test.YteglmkbkjaeijaaTcfT
namespace Go.Proofs.Yteglmkbkjaeijaa
open Go Go.Sim Go.Pw Go.Proofs
set_option linter.unusedVariables false
set_option linter.unusedSimpArgs false
set_option maxRecDepth 100000
set_option maxHeartbeats 4000000
noncomputable section

def e_S_Finding (x : S_Finding) : AV := .agg [.sc (.int .i64 x.Kind), .sc (.string x.Who), .sc (.string x.What)]

def fc7 : FCfg := { par := [.cst false], inn := [(14, some ([0, 4, 6, 7], [4, 6])), (18, some ([0, 4, 6, 8], [4, 6]))], out := [(14, some ([0, 4, 6, 42], [4, 6]))], loopK := [], frz := [], sch := [] }
def fc18 : FCfg := { par := [.cst false, .cst false], inn := [], out := [], loopK := [], frz := [], sch := [] }
def fc20 : FCfg := { par := [.cst false], inn := [(3, some ([1, 2, 3], [1, 2, 3])), (4, some ([1, 2, 3], [1, 2, 3])), (5, some ([2, 3], [2, 3]))], out := [], loopK := [], frz := [], sch := [] }
def fc22 : FCfg := { par := [.cst false, .cst false], inn := [(10, some ([1], []))], out := [], loopK := [(5, ([0, 1, 5], []))], frz := [], sch := [] }
def fc23 : FCfg := { par := [.cst false], inn := [(4, some ([0, 3, 4], [3])), (7, some ([0, 3, 4], [3])), (8, some ([3], [3]))], out := [], loopK := [(3, ([0, 3, 4], [3]))], frz := [], sch := [] }
def fc24 : FCfg := { par := [.cst false], inn := [(4, some ([0, 3, 4], [3])), (6, some ([3], [3]))], out := [], loopK := [(3, ([0, 3, 4], [3]))], frz := [], sch := [] }
def fc25 : FCfg := { par := [.cst false], inn := [(5, some ([3, 5, 7, 8, 9], [3, 5])), (7, some ([3, 5, 7, 8, 9], [3, 5])), (8, some ([3, 7, 8, 9], [3])), (9, some ([3], [3]))], out := [], loopK := [(3, ([3, 7, 8, 9], [3]))], frz := [], sch := [] }
def fc26 : FCfg := { par := [.cst false, .cst false], inn := [(8, some ([], []))], out := [(6, some ([0, 1, 5, 25], []))], loopK := [(4, ([0, 1, 5], []))], frz := [], sch := [(6, .first 0 [2, 3, 8] [1, 4, 5, 6, 7] (.first 1 [2, 3, 8] [4, 5, 6, 7] (.first 2 [3, 8] [4, 5, 6, 7] (.first 3 [8] [4, 5, 6, 7] (.first 4 [6, 7, 8] [5] (.first 5 [6, 7, 8] [] (.first 6 [7, 8] [] (.first 7 [8] [] (.first 8 [] [] (.done))))))))))] }
def fc27 : FCfg := { par := [.cst false, .cst false], inn := [(8, some ([], []))], out := [(6, some ([0, 1, 5, 26], []))], loopK := [(4, ([0, 1, 5], []))], frz := [], sch := [(6, .first 0 [2, 3, 8, 9] [1, 4, 5, 6, 7] (.first 1 [2, 3, 8, 9] [4, 5, 6, 7] (.first 2 [3, 8, 9] [4, 5, 6, 7] (.first 3 [8, 9] [4, 5, 6, 7] (.first 4 [6, 7, 8, 9] [5] (.first 5 [6, 7, 8, 9] [] (.first 6 [7, 8, 9] [] (.first 7 [8, 9] [] (.fork 8 (.first 9 [] [] (.done)) (.stop))))))))))] }
def fc28 : FCfg := { par := [.row, .cst false], inn := [(5, some ([0, 1, 5], [0])), (7, some ([0, 1, 5], [0])), (9, some ([0, 1, 5], [0])), (10, some ([1], [0]))], out := [], loopK := [(2, ([0, 1, 5], [0]))], frz := [], sch := [] }
def fc29 : FCfg := { par := [.row, .cst false], inn := [(5, some ([0, 1, 5], [0])), (6, some ([1], [0]))], out := [], loopK := [(2, ([0, 1, 5], [0]))], frz := [], sch := [] }
def fc30 : FCfg := { par := [.cst false, .cst false], inn := [(7, some ([1], []))], out := [], loopK := [(2, ([0, 1, 5], []))], frz := [], sch := [] }
def fc36 : FCfg := { par := [.cst false], inn := [], out := [], loopK := [], frz := [], sch := [] }
def fc38 : FCfg := { par := [.cst false, .cst false, .cst false], inn := [], out := [(1, some ([6], []))], loopK := [], frz := [], sch := [] }
def fc40 : FCfg := { par := [.cst false], inn := [(7, some ([3], []))], out := [], loopK := [(4, ([0, 3], []))], frz := [], sch := [] }
def fc41 : FCfg := { par := [.cst false, .cst false, .cst false], inn := [], out := [(1, some ([6], []))], loopK := [], frz := [], sch := [] }
def fc42 : FCfg := { par := [.cst false, .cst false], inn := [], out := [], loopK := [], frz := [], sch := [] }
def fcs : List (Nat × FCfg) := [(7, fc7), (18, fc18), (20, fc20), (22, fc22), (23, fc23), (24, fc24), (25, fc25), (26, fc26), (27, fc27), (28, fc28), (29, fc29), (30, fc30), (36, fc36), (38, fc38), (40, fc40), (41, fc41), (42, fc42)]
def ons : List (Nat × Bool) := [(7, true), (18, true), (20, true), (22, true), (23, true), (24, true), (25, true), (26, true), (27, true), (28, true), (29, true), (30, true), (36, true), (38, true), (40, true), (41, true), (42, true)]
def cfg : Cfg := mkCfg ons fcs []
theorem c7 : cfg.fc 7 = fc7 := rfl
theorem z7 : (cfg.fc 7).frz = [] := rfl
theorem c18 : cfg.fc 18 = fc18 := rfl
theorem z18 : (cfg.fc 18).frz = [] := rfl
theorem c20 : cfg.fc 20 = fc20 := rfl
theorem z20 : (cfg.fc 20).frz = [] := rfl
theorem c22 : cfg.fc 22 = fc22 := rfl
theorem z22 : (cfg.fc 22).frz = [] := rfl
theorem c23 : cfg.fc 23 = fc23 := rfl
theorem z23 : (cfg.fc 23).frz = [] := rfl
theorem c24 : cfg.fc 24 = fc24 := rfl
theorem z24 : (cfg.fc 24).frz = [] := rfl
theorem c25 : cfg.fc 25 = fc25 := rfl
theorem z25 : (cfg.fc 25).frz = [] := rfl
theorem c26 : cfg.fc 26 = fc26 := rfl
theorem z26 : (cfg.fc 26).frz = [] := rfl
theorem c27 : cfg.fc 27 = fc27 := rfl
theorem z27 : (cfg.fc 27).frz = [] := rfl
theorem c28 : cfg.fc 28 = fc28 := rfl
theorem z28 : (cfg.fc 28).frz = [] := rfl
theorem c29 : cfg.fc 29 = fc29 := rfl
theorem z29 : (cfg.fc 29).frz = [] := rfl
theorem c30 : cfg.fc 30 = fc30 := rfl
theorem z30 : (cfg.fc 30).frz = [] := rfl
theorem c36 : cfg.fc 36 = fc36 := rfl
theorem z36 : (cfg.fc 36).frz = [] := rfl
theorem c38 : cfg.fc 38 = fc38 := rfl
theorem z38 : (cfg.fc 38).frz = [] := rfl
theorem c40 : cfg.fc 40 = fc40 := rfl
theorem z40 : (cfg.fc 40).frz = [] := rfl
theorem c41 : cfg.fc 41 = fc41 := rfl
theorem z41 : (cfg.fc 41).frz = [] := rfl
theorem c42 : cfg.fc 42 = fc42 := rfl
theorem z42 : (cfg.fc 42).frz = [] := rfl
theorem eF38 : elemSz Try.prog 38 = some (2, 1) := by kernel_rfl
theorem eF40 : elemSz Try.prog 40 = some (33, 3) := by kernel_rfl
theorem fF30_0 : fieldF Try.prog 30 0 = some 0 := by kernel_rfl
theorem fF30_1 : fieldF Try.prog 30 1 = some 1 := by kernel_rfl
theorem fF30_2 : fieldF Try.prog 30 2 = some 2 := by kernel_rfl
theorem fF33_0 : fieldF Try.prog 33 0 = some 0 := by kernel_rfl
theorem fF33_1 : fieldF Try.prog 33 1 = some 1 := by kernel_rfl
theorem fF33_2 : fieldF Try.prog 33 2 = some 2 := by kernel_rfl
theorem kF18_30_3 : callK Try.prog cfg 18 0 [30, 3] = [(.cst false, [none, none, none]), (.cst false, [none])] := by kernel_rfl
theorem kF20_30 : callK Try.prog cfg 20 0 [30] = [(.cst false, [none, none, none])] := by kernel_rfl
theorem kF22_36_3 : callK Try.prog cfg 22 0 [36, 3] = [(.cst false, [some 3]), (.cst false, [none])] := by kernel_rfl
theorem kF23_40 : callK Try.prog cfg 23 0 [40] = [(.cst false, [some 3])] := by kernel_rfl
theorem kF24_36 : callK Try.prog cfg 24 0 [36] = [(.cst false, [some 3])] := by kernel_rfl
theorem kF25_40 : callK Try.prog cfg 25 0 [40] = [(.cst false, [some 3])] := by kernel_rfl
theorem kF26_38_38 : callK Try.prog cfg 26 0 [38, 38] = [(.cst false, [some 1]), (.cst false, [some 1])] := by kernel_rfl
theorem kF27_40_40 : callK Try.prog cfg 27 0 [40, 40] = [(.cst false, [some 3]), (.cst false, [some 3])] := by kernel_rfl
theorem kF28_40_3 : callK Try.prog cfg 28 0 [40, 3] = [(.row, [some 3]), (.cst false, [none])] := by kernel_rfl
theorem kF29_38_3 : callK Try.prog cfg 29 0 [38, 3] = [(.row, [some 1]), (.cst false, [none])] := by kernel_rfl
theorem kF30_38_3 : callK Try.prog cfg 30 0 [38, 3] = [(.cst false, [some 1]), (.cst false, [none])] := by kernel_rfl
theorem kF36_2 : callK Try.prog cfg 36 0 [2] = [(.cst false, [none])] := by kernel_rfl
theorem kF38_2_2_2 : callK Try.prog cfg 38 0 [2, 2, 2] = [(.cst false, [none]), (.cst false, [none]), (.cst false, [none])] := by kernel_rfl
theorem kF40_3 : callK Try.prog cfg 40 0 [3] = [(.cst false, [none])] := by kernel_rfl
theorem kF41_2_2_2 : callK Try.prog cfg 41 0 [2, 2, 2] = [(.cst false, [none]), (.cst false, [none]), (.cst false, [none])] := by kernel_rfl
theorem kF42_33_33 : callK Try.prog cfg 42 0 [33, 33] = [(.cst false, [none, none, none]), (.cst false, [none, none, none])] := by kernel_rfl
theorem rF18 : resK Try.prog (Try.f18.results.toList.zip Try.f18.resultTypes.toList) = [(.tmp 4, [none], none)] := by kernel_rfl
theorem rF20 : resK Try.prog (Try.f20.results.toList.zip Try.f20.resultTypes.toList) = [(.cell 2 33, [none, none, none], some (true, 3))] := by kernel_rfl
theorem rF22 : resK Try.prog (Try.f22.results.toList.zip Try.f22.resultTypes.toList) = [(.tmp 4, [none], none)] := by kernel_rfl
theorem rF23 : resK Try.prog (Try.f23.results.toList.zip Try.f23.resultTypes.toList) = [(.tmp 2, [some 1], none)] := by kernel_rfl
theorem rF24 : resK Try.prog (Try.f24.results.toList.zip Try.f24.resultTypes.toList) = [(.tmp 2, [some 3], none)] := by kernel_rfl
theorem rF25 : resK Try.prog (Try.f25.results.toList.zip Try.f25.resultTypes.toList) = [(.tmp 2, [some 1], none)] := by kernel_rfl
theorem rF26 : resK Try.prog (Try.f26.results.toList.zip Try.f26.resultTypes.toList) = [(.tmp 4, [none], none)] := by kernel_rfl
theorem rF27 : resK Try.prog (Try.f27.results.toList.zip Try.f27.resultTypes.toList) = [(.tmp 4, [none], none)] := by kernel_rfl
theorem rF28 : resK Try.prog (Try.f28.results.toList.zip Try.f28.resultTypes.toList) = [(.tmp 4, [none], none)] := by kernel_rfl
theorem rF29 : resK Try.prog (Try.f29.results.toList.zip Try.f29.resultTypes.toList) = [(.tmp 4, [none], none)] := by kernel_rfl
theorem rF30 : resK Try.prog (Try.f30.results.toList.zip Try.f30.resultTypes.toList) = [(.tmp 4, [none], none)] := by kernel_rfl
theorem rF36 : resK Try.prog (Try.f36.results.toList.zip Try.f36.resultTypes.toList) = [(.tmp 2, [none], none)] := by kernel_rfl
theorem rF38 : resK Try.prog (Try.f38.results.toList.zip Try.f38.resultTypes.toList) = [(.tmp 6, [none], none)] := by kernel_rfl
theorem rF40 : resK Try.prog (Try.f40.results.toList.zip Try.f40.resultTypes.toList) = [(.tmp 2, [none], none)] := by kernel_rfl
theorem rF41 : resK Try.prog (Try.f41.results.toList.zip Try.f41.resultTypes.toList) = [(.tmp 6, [none], none)] := by kernel_rfl
theorem rF42 : resK Try.prog (Try.f42.results.toList.zip Try.f42.resultTypes.toList) = [(.tmp 4, [none], none)] := by kernel_rfl
theorem rF7 : resK Try.prog (Try.f7.results.toList.zip Try.f7.resultTypes.toList) = [(.tmp 2, [none], none)] := by kernel_rfl
theorem sF36 : sliceF Try.prog 36 = some (30, 3, [none, none, none], true, 40, [.im 0 (.sc (.int .i64 0)), .im 0 (.sc (.string ⟨#[]⟩)), .im 0 (.sc (.string ⟨#[]⟩))]) := by kernel_rfl
theorem sF38 : sliceF Try.prog 38 = some (2, 1, [none], false, 8, [.im 0 (.sc (.int .i64 0))]) := by kernel_rfl
theorem sF40 : sliceF Try.prog 40 = some (33, 3, [none, none, none], true, 40, [.im 0 (.sc (.int .i64 0)), .im 0 (.sc (.string ⟨#[]⟩)), .im 0 (.sc (.string ⟨#[]⟩))]) := by kernel_rfl
theorem sF69 : sliceF Try.prog 69 = some (5, 1, [none], false, 1, [.im 0 (.sc (.int .u8 0))]) := by kernel_rfl
theorem tF2 : tyF Try.prog 2 = some ([.im 0 (.sc (.int .i64 0))], [none], false, 1) := by kernel_rfl
theorem tF30 : tyF Try.prog 30 = some ([.im 0 (.sc (.int .i64 0)), .im 0 (.sc (.string ⟨#[]⟩)), .im 0 (.sc (.string ⟨#[]⟩))], [none, none, none], true, 3) := by kernel_rfl
theorem tF33 : tyF Try.prog 33 = some ([.im 0 (.sc (.int .i64 0)), .im 0 (.sc (.string ⟨#[]⟩)), .im 0 (.sc (.string ⟨#[]⟩))], [none, none, none], true, 3) := by kernel_rfl
theorem tF9 : tyF Try.prog 9 = some ([.im 0 (.sc (.string ⟨#[]⟩))], [none], false, 1) := by kernel_rfl
theorem uF3 : Try.prog.underlying 3 = some (.int .i64) := by kernel_rfl
theorem uF36 : Try.prog.underlying 36 = some (.slice 30) := by kernel_rfl
theorem uF38 : Try.prog.underlying 38 = some (.slice 2) := by kernel_rfl
theorem uF40 : Try.prog.underlying 40 = some (.slice 33) := by kernel_rfl
theorem uF5 : Try.prog.underlying 5 = some (.int .u8) := by kernel_rfl
theorem uF69 : Try.prog.underlying 69 = some (.slice 5) := by kernel_rfl
theorem uF9 : Try.prog.underlying 9 = some .string := by kernel_rfl

theorem L_laws_szFinding {a_0 : S_Finding} {left_1 : Int} {r : Int} (h : laws_szFinding a_0 left_1 = some r) : FL Try.prog cfg 18 [.im 2 true [.sc (.int .i64 a_0.Kind), .sc (.string a_0.Who), .sc (.string a_0.What)], .im 2 false [.sc (.int .i64 left_1)]] = some ([(false, [.im 0 (.sc (.int .i64 r))])], []) := by
  unfold laws_szFinding at h
  refine FL_goS (A := [(0, .v true [.im 2 (.sc (.int .i64 a_0.Kind)), .im 2 (.sc (.string a_0.Who)), .im 2 (.sc (.string a_0.What))]), (1, .v false [.im 2 (.sc (.int .i64 left_1))])]) (B := [(0, none), (1, none)]) (nt := 20) rfl rfl Try.func18 rfl rfl rfl rfl ?_
  refine Go.seq ?_
  refine Go.r0 c18 rfl rfl (sq z18 (oBx rfl tF30 rfl (tkI (tkI (tkI tk0)))) <| sq z18 (oAsI rfl rfl) <| nl) ?_
  refine Unw.seq ?_
  refine Go.seq ?_
  refine Go.r0 c18 rfl rfl (sq z18 (oMv rfl rfl) <| sq z18 (oFA (r' := .mp 2 0 1) rfl fF30_1 rfl rfl) <| sq z18 (oLd (cs := [.im 0 _]) rfl tF9 rfl rfl) <| sq z18 (oLnS rfl rfl uF9 rfl) <| sq z18 (oBi rfl rfl rfl rfl) <| sq z18 (oAsI rfl rfl) <| nl) ?_
  refine Unw.seq ?_
  refine Go.seq ?_
  refine Go.seq ?_
  refine Go.r0 c18 rfl rfl (sq z18 (oMv rfl rfl) <| sq z18 (oBi rfl rfl rfl rfl) <| nl) ?_
  refine Unw.seq ?_
  by_cases hc1 : (w64 (left_1 - (a_0.Who.size : Int))) < 0
  · rw [if_pos hc1] at h
    refine Go.condT rfl (iDec.2 hc1) ?_
    refine Go.seq ?_
    refine Go.r0 c18 rfl rfl (sq z18 (oAsI rfl rfl) <| nl) ?_
    refine Unw.seq ?_
    refine Go.ret (Unw.ret ?_)
    cases h
    exact Fin_ret (fin_of rfl rF18 rfl rfl)
  · rw [if_neg hc1] at h
    refine Go.condF rfl (byF iDec hc1) ?_
    refine Go.skip ?_
    refine Unw.seq ?_
    refine Go.seq ?_
    refine Go.r0 c18 rfl rfl (sq z18 (oMv rfl rfl) <| sq z18 (oFA (r' := .mp 2 0 2) rfl fF30_2 rfl rfl) <| sq z18 (oLd (cs := [.im 0 _]) rfl tF9 rfl rfl) <| sq z18 (oLnS rfl rfl uF9 rfl) <| sq z18 (oBi rfl rfl rfl rfl) <| sq z18 (oAsI rfl rfl) <| nl) ?_
    refine Unw.seq ?_
    refine Go.seq ?_
    refine Go.seq ?_
    refine Go.r0 c18 rfl rfl (sq z18 (oMv rfl rfl) <| sq z18 (oBi rfl rfl rfl rfl) <| nl) ?_
    refine Unw.seq ?_
    by_cases hc2 : (w64 ((w64 (left_1 - (a_0.Who.size : Int))) - (a_0.What.size : Int))) < 0
    · rw [if_pos hc2] at h
      refine Go.condT rfl (iDec.2 hc2) ?_
      refine Go.seq ?_
      refine Go.r0 c18 rfl rfl (sq z18 (oAsI rfl rfl) <| nl) ?_
      refine Unw.seq ?_
      refine Go.ret (Unw.ret ?_)
      cases h
      exact Fin_ret (fin_of rfl rF18 rfl rfl)
    · rw [if_neg hc2] at h
      refine Go.condF rfl (byF iDec hc2) ?_
      refine Go.skip ?_
      refine Unw.seq ?_
      refine Go.seq ?_
      refine Go.r0 c18 rfl rfl (sq z18 (oMv rfl rfl) <| sq z18 (oAsI rfl rfl) <| nl) ?_
      refine Unw.seq ?_
      refine Go.ret (Unw.ret ?_)
      cases h
      exact Fin_ret (fin_of rfl rF18 rfl rfl)
theorem L_laws_szFindingS {a_0 : (List S_Finding)} {left_1 : Int} {r : Int} (h : laws_szFindingS a_0 left_1 = some r) : FL Try.prog cfg 22 [.im 2 false [.row 3 (List.map e_S_Finding a_0)], .im 2 false [.sc (.int .i64 left_1)]] = some ([(false, [.im 0 (.sc (.int .i64 r))])], []) := by
  unfold laws_szFindingS at h
  refine FL_goS (A := [(0, .v false [.im 2 (.row 3 (List.map e_S_Finding a_0))]), (1, .v false [.im 2 (.sc (.int .i64 left_1))])]) (B := [(0, none), (1, none)]) (nt := 27) rfl rfl Try.func22 rfl rfl rfl rfl ?_
  refine Go.seq ?_
  refine Go.r0 c22 rfl rfl (sq z22 (oAsI rfl rfl) <| nl) ?_
  refine Unw.seq ?_
  refine Go.seq ?_
  refine Go.r0 c22 rfl rfl (sq z22 (oMv rfl rfl) <| sq z22 (oMv rfl rfl) <| sq z22 (oLnI rfl rfl uF36 rfl) <| sq z22 (oBi rfl rfl rfl rfl) <| sq z22 (oAsI rfl rfl) <| nl) ?_
  refine Unw.seq ?_
  refine Go.seq ?_
  refine Go.seq ?_
  refine Go.r0 c22 rfl rfl (sq z22 (oMv rfl rfl) <| sq z22 (oBi rfl rfl rfl rfl) <| nl) ?_
  refine Unw.seq ?_
  by_cases hc1 : (w64 (left_1 - (a_0.length : Int))) < 0
  · rw [if_pos hc1] at h
    refine Go.condT rfl (iDec.2 hc1) ?_
    refine Go.seq ?_
    refine Go.r0 c22 rfl rfl (sq z22 (oAsI rfl rfl) <| nl) ?_
    refine Unw.seq ?_
    refine Go.ret (Unw.ret ?_)
    cases h
    exact Fin_ret (fin_of rfl rF22 rfl rfl)
  · rw [if_neg hc1] at h
    refine Go.condF rfl (byF iDec hc1) ?_
    refine Go.skip ?_
    refine Unw.seq ?_
    refine Go.seq ?_
    refine Go.seq ?_
    refine Go.r0 c22 rfl rfl (sq z22 (oAsI rfl rfl) <| nl) ?_
    refine Unw.seq ?_
    refine Go.block ?_
    obtain ⟨o, hl, h⟩ := bs h
    refine Go.lp c22 rfl _ (fun (s : (Int × Int)) => match s with | (left_1_l5, i_5_l5) => mk [(0, .v false [.im 2 (.row 3 (List.map e_S_Finding a_0))]), (1, iv left_1_l5), (5, iv i_5_l5)] []) (fun (o : (Int ⊕ Int)) (p : Ex × St) => match o with | (.inl left_1_e0_5) => p.1 = .exit 0 ∧ p.2.norm ([1], []) = mk [(1, iv left_1_e0_5)] [] | (.inr r2) => p.1 = .ret ∧ fin Try.prog cfg 22 Try.f22 [.im 2 false [.row 3 (List.map e_S_Finding a_0)], .im 2 false [.sc (.int .i64 left_1)]] p.2 = some ([(false, [.im 0 (.sc (.int .i64 r2))])], [])) hl rfl ?_ ?_ ?_
    · intro o p hp e
      rcases o with left_1_e0_5 | r2 <;> exact nomatch (hp.1.symm.trans e)
    · rintro ⟨left_1_l5, i_5_l5⟩ o h
      unfold laws_szFindingS_l5 at h
      dsimp only at h
      refine Go.seq ?_
      refine Go.seq ?_
      refine Go.r0 c22 rfl rfl (sq z22 (oMv rfl rfl) <| sq z22 (oMv rfl rfl) <| sq z22 (oLnI rfl rfl uF36 rfl) <| sq z22 (oBi rfl rfl rfl rfl) <| nl) ?_
      refine Unw.seq ?_
      by_cases hc6 : i_5_l5 < (a_0.length : Int)
      · rw [if_pos hc6] at h
        refine Go.condT rfl (iDec.2 hc6) ?_
        refine Go.skip ?_
        refine Unw.seq ?_
        refine Go.seq ?_
        refine Go.block ?_
        refine Go.seq ?_
        obtain ⟨x20, hx20, h⟩ := bs h
        obtain ⟨x23, hx23, h⟩ := bs h
        refine Go.r0 c22 rfl rfl (sq z22 (oMv rfl rfl) <| sq z22 (oMv rfl rfl) <| sq z22 (oIAI rfl hx20 sF36 rfl rfl) <| sq z22 (oLd (cs := [.im 2 _, .im 2 _, .im 2 _]) rfl tF30 rfl rfl) <| sq z22 (oMv rfl rfl) <| sq z22 (oCa (xs := [.v true [.im 2 _, .im 2 _, .im 2 _], .v false [.im 0 _]]) (vs := [(false, [.im 0 _])]) (v := .v false [.im 0 _]) (L_laws_szFinding hx23) rfl rfl kF18_30_3 rfl (ppC rfl (ppC rfl pp0)) rfl rfl pb0 rfl rfl rfl) <| sq z22 (oAsI rfl rfl) <| nl) ?_
        refine Unw.seq ?_
        refine Go.seq ?_
        refine Go.r0 c22 rfl rfl (sq z22 (oMv rfl rfl) <| sq z22 (oBi rfl rfl rfl rfl) <| nl) ?_
        refine Unw.seq ?_
        by_cases hc7 : x23 < 0
        · rw [if_pos hc7] at h
          refine Go.condT rfl (iDec.2 hc7) ?_
          refine Go.seq ?_
          refine Go.r0 c22 rfl rfl (sq z22 (oAsI rfl rfl) <| nl) ?_
          refine Unw.seq ?_
          refine Go.ret (Unw.ret ?_)
          cases h
          exact ⟨rfl, (fin_of rfl rF22 rfl rfl)⟩
        · rw [if_neg hc7] at h
          refine Go.condF rfl (byF iDec hc7) ?_
          refine Go.skip ?_
          refine Unw.blk ?_
          refine Unw.seq ?_
          refine Go.r0 c22 rfl rfl (sq z22 (oMv rfl rfl) <| sq z22 (oBi rfl rfl rfl rfl) <| sq z22 (oAsI rfl rfl) <| nl) ?_
          refine Unw.nil ?_
          cases h
          exact ⟨rfl, rfl⟩
      · rw [if_neg hc6] at h
        refine Go.condF rfl (byF iDec hc6) ?_
        refine Go.exit ?_
        refine Unw.seqx ?_
        refine Unw.nil ?_
        cases h
        exact ⟨rfl, rfl⟩
    · rintro ⟨e, st⟩ hp
      rcases o with left_1_e0_5 | r2
      · dsimp only at h
        obtain ⟨he, hst⟩ := hp
        obtain rfl : e = .exit 0 := he
        refine Unw.blkx ?_
        refine Unw.seq ?_
        refine Go.seq ?_
        refine Go.r1 c22 rfl rfl hst (sq z22 (oMv rfl rfl) <| sq z22 (oAsI rfl rfl) <| nl) ?_
        refine Unw.seq ?_
        refine Go.ret (Unw.ret ?_)
        cases h
        exact Fin_ret (fin_of rfl rF22 rfl rfl)
      · dsimp only at h
        obtain ⟨he, hfin⟩ := hp
        obtain rfl : e = .ret := he
        cases h
        exact Unw.ret (Fin_ret hfin)
theorem L_laws_toFinding {a_0 : S_Finding} {r : S_Finding} (h : laws_toFinding a_0 = some r) : FL Try.prog cfg 20 [.im 2 true [.sc (.int .i64 a_0.Kind), .sc (.string a_0.Who), .sc (.string a_0.What)]] = some ([(true, [.im 0 (.sc (.int .i64 r.Kind)), .im 0 (.sc (.string r.Who)), .im 0 (.sc (.string r.What))])], []) := by
  unfold laws_toFinding at h
  refine FL_goS (A := [(0, .v true [.im 2 (.sc (.int .i64 a_0.Kind)), .im 2 (.sc (.string a_0.Who)), .im 2 (.sc (.string a_0.What))])]) (B := [(0, none)]) (nt := 14) rfl rfl Try.func20 rfl rfl rfl rfl ?_
  refine Go.seq ?_
  refine Go.r0 c20 rfl rfl (sq z20 (oBx rfl tF30 rfl (tkI (tkI (tkI tk0)))) <| sq z20 (oAl rfl tF33 (tkI (tkI (tkI tk0)))) <| nl) ?_
  refine Unw.seq ?_
  refine Go.seq ?_
  refine Go.r0 c20 rfl rfl (sq z20 (oAl rfl tF33 (tkI (tkI (tkI tk0)))) <| nl) ?_
  refine Unw.seq ?_
  refine Go.seq ?_
  refine Go.r0 c20 rfl rfl (sq z20 (oFA (r' := .mp 1 0 0) rfl fF30_0 rfl rfl) <| sq z20 (oLd (cs := [.im 0 _]) rfl tF2 rfl rfl) <| sq z20 (oFA (r' := .mp 3 0 0) rfl fF33_0 rfl rfl) <| sq z20 (oSt tF2 rfl rfl rfl (tkI tk0) rfl rfl rfl) <| nl) ?_
  refine Unw.seq ?_
  refine Go.seq ?_
  refine Go.r1 c20 rfl rfl (st1 := mk [(1, .v false [.mp 1 0 0]), (2, .v false [.mp 2 0 0]), (3, .v false [.mp 3 0 0])] [(1, some ⟨0, 0, false, true, false, true, [⟨.imm, 0, 0, .sc (.int .i64 a_0.Kind)⟩, ⟨.imm, 0, 0, .sc (.string a_0.Who)⟩, ⟨.imm, 0, 0, .sc (.string a_0.What)⟩]⟩), (2, some ⟨0, 0, false, true, false, true, [⟨.imm, 0, 0, .sc (.int .i64 0)⟩, ⟨.imm, 0, 0, .sc (.string (⟨#[]⟩ : ByteArray))⟩, ⟨.imm, 0, 0, .sc (.string (⟨#[]⟩ : ByteArray))⟩]⟩), (3, some ⟨0, 0, false, true, false, true, [⟨.imm, 0, 0, .sc (.int .i64 a_0.Kind)⟩, ⟨.imm, 0, 0, .sc (.string (⟨#[]⟩ : ByteArray))⟩, ⟨.imm, 0, 0, .sc (.string (⟨#[]⟩ : ByteArray))⟩]⟩)]) rfl (sq z20 (oFA (r' := .mp 1 0 1) rfl fF30_1 rfl rfl) <| sq z20 (oLd (cs := [.im 0 _]) rfl tF9 rfl rfl) <| sq z20 (oFA (r' := .mp 3 0 1) rfl fF33_1 rfl rfl) <| sq z20 (oSt tF9 rfl rfl rfl (tkI tk0) rfl rfl rfl) <| nl) ?_
  refine Unw.seq ?_
  refine Go.seq ?_
  refine Go.r1 c20 rfl rfl (st1 := mk [(1, .v false [.mp 1 0 0]), (2, .v false [.mp 2 0 0]), (3, .v false [.mp 3 0 0])] [(1, some ⟨0, 0, false, true, false, true, [⟨.imm, 0, 0, .sc (.int .i64 a_0.Kind)⟩, ⟨.imm, 0, 0, .sc (.string a_0.Who)⟩, ⟨.imm, 0, 0, .sc (.string a_0.What)⟩]⟩), (2, some ⟨0, 0, false, true, false, true, [⟨.imm, 0, 0, .sc (.int .i64 0)⟩, ⟨.imm, 0, 0, .sc (.string (⟨#[]⟩ : ByteArray))⟩, ⟨.imm, 0, 0, .sc (.string (⟨#[]⟩ : ByteArray))⟩]⟩), (3, some ⟨0, 0, false, true, false, true, [⟨.imm, 0, 0, .sc (.int .i64 a_0.Kind)⟩, ⟨.imm, 0, 0, .sc (.string a_0.Who)⟩, ⟨.imm, 0, 0, .sc (.string (⟨#[]⟩ : ByteArray))⟩]⟩)]) rfl (sq z20 (oFA (r' := .mp 1 0 2) rfl fF30_2 rfl rfl) <| sq z20 (oLd (cs := [.im 0 _]) rfl tF9 rfl rfl) <| sq z20 (oFA (r' := .mp 3 0 2) rfl fF33_2 rfl rfl) <| sq z20 (oSt tF9 rfl rfl rfl (tkI tk0) rfl rfl rfl) <| nl) ?_
  refine Unw.seq ?_
  refine Go.seq ?_
  refine Go.r1 c20 rfl rfl (st1 := mk [(2, .v false [.mp 2 0 0]), (3, .v false [.mp 3 0 0])] [(2, some ⟨0, 0, false, true, false, true, [⟨.imm, 0, 0, .sc (.int .i64 0)⟩, ⟨.imm, 0, 0, .sc (.string (⟨#[]⟩ : ByteArray))⟩, ⟨.imm, 0, 0, .sc (.string (⟨#[]⟩ : ByteArray))⟩]⟩), (3, some ⟨0, 0, false, true, false, true, [⟨.imm, 0, 0, .sc (.int .i64 a_0.Kind)⟩, ⟨.imm, 0, 0, .sc (.string a_0.Who)⟩, ⟨.imm, 0, 0, .sc (.string a_0.What)⟩]⟩)]) rfl (sq z20 (oLd (cs := [.im 0 _, .im 0 _, .im 0 _]) rfl tF33 rfl rfl) <| sq z20 (oSt tF33 rfl rfl rfl (tkI (tkI (tkI tk0))) rfl rfl rfl) <| nl) ?_
  refine Unw.seq ?_
  refine Go.ret (Unw.ret ?_)
  cases h
  exact Fin_ret (fin_of rfl rF20 rfl rfl)
theorem L_laws_toFindingS {a_0 : (List S_Finding)} {r : (List S_Finding)} (h : laws_toFindingS a_0 = some r) : FL Try.prog cfg 24 [.im 2 false [.row 3 (List.map e_S_Finding a_0)]] = some ([(false, [.ow 0 3 (List.map e_S_Finding r)])], []) := by
  unfold laws_toFindingS at h
  refine FL_goS (A := [(0, .v false [.im 2 (.row 3 (List.map e_S_Finding a_0))])]) (B := [(0, none)]) (nt := 23) rfl rfl Try.func24 rfl rfl rfl rfl ?_
  refine Go.seq ?_
  refine Go.r0 c24 rfl rfl (sq z24 (oAsN rfl rfl eF40) <| nl) ?_
  refine Unw.seq ?_
  refine Go.seq ?_
  obtain ⟨x7, hx7, h⟩ := bs h
  refine Go.r0 c24 rfl rfl (sq z24 (oMv rfl rfl) <| sq z24 (oLnI rfl rfl uF36 rfl) <| sq z24 (oMk (en := e_S_Finding) rfl hx7 rfl sF40 rfl rfl (fxI (fxI (fxI fx0))) rfl (flat0 (L := [_]) rfl fun _ => rfl)) <| sq z24 (oAsO rfl rfl rfl rfl rfl) <| nl) ?_
  refine Unw.seq ?_
  refine Go.seq ?_
  refine Go.seq ?_
  refine Go.r0 c24 rfl rfl (sq z24 (oAsI rfl rfl) <| nl) ?_
  refine Unw.seq ?_
  refine Go.block ?_
  obtain ⟨o, hl, h⟩ := bs h
  refine Go.lp c24 rfl _ (fun (s : (Int × (List S_Finding))) => match s with | (i_4_l3, out_o3_l3) => mk [(0, .v false [.im 2 (.row 3 (List.map e_S_Finding a_0))]), (3, .v false [.own 3 0 0]), (4, iv i_4_l3)] [(3, some ⟨0, 0, false, false, false, false, [⟨.sh, 0, 0, .row 3 (List.map e_S_Finding out_o3_l3)⟩]⟩)]) (fun (out_o3_e0_3 : (List S_Finding)) (p : Ex × St) => p.1 = .exit 0 ∧ p.2.norm ([3], [3]) = mk [(3, .v false [.own 3 0 0])] [(3, some ⟨0, 0, false, false, false, false, [⟨.sh, 0, 0, .row 3 (List.map e_S_Finding out_o3_e0_3)⟩]⟩)]) hl rfl ?_ ?_ ?_
  · intro o p hp e
    exact nomatch (hp.1.symm.trans e)
  · rintro ⟨i_4_l3, out_o3_l3⟩ o h
    unfold laws_toFindingS_l3 at h
    dsimp only at h
    refine Go.seq ?_
    refine Go.seq ?_
    refine Go.r0 c24 rfl rfl (sq z24 (oMv rfl rfl) <| sq z24 (oMv rfl rfl) <| sq z24 (oLnI rfl rfl uF36 rfl) <| sq z24 (oBi rfl rfl rfl rfl) <| nl) ?_
    refine Unw.seq ?_
    by_cases hc3 : i_4_l3 < (a_0.length : Int)
    · rw [if_pos hc3] at h
      refine Go.condT rfl (iDec.2 hc3) ?_
      refine Go.skip ?_
      refine Unw.seq ?_
      refine Go.seq ?_
      refine Go.block ?_
      obtain ⟨x18, hx18, h⟩ := bs h
      obtain ⟨x20, hx20, h⟩ := bs h
      obtain ⟨x21, hx21, h⟩ := bs h
      refine Go.r0 c24 rfl rfl (sq z24 (oMv rfl rfl) <| sq z24 (oMv rfl rfl) <| sq z24 (oMv rfl rfl) <| sq z24 (oMv rfl rfl) <| sq z24 (oIAI rfl hx18 sF36 rfl rfl) <| sq z24 (oLd (cs := [.im 2 _, .im 2 _, .im 2 _]) rfl tF30 rfl rfl) <| sq z24 (oCa (xs := [.v true [.im 2 _, .im 2 _, .im 2 _]]) (vs := [(true, [.im 0 _, .im 0 _, .im 0 _])]) (v := .v true [.im 0 _, .im 0 _, .im 0 _]) (L_laws_toFinding hx20) rfl rfl kF20_30 rfl (ppC rfl pp0) rfl rfl pb0 rfl rfl rfl) <| sq z24 (oIAO rfl hx21 sF40 rfl rfl rfl rfl) <| sq z24 (oStE (v' := x20) tF33 rfl rfl rfl (fxI (fxI (fxI fx0))) rfl rfl (rd_get hx21) rfl) <| nl) ?_
      refine Unw.blk ?_
      refine Unw.seq ?_
      refine Go.r1 c24 rfl rfl (st1 := mk [(0, .v false [.im 2 (.row 3 (List.map e_S_Finding a_0))]), (3, .v false [.own 3 0 0]), (4, iv i_4_l3)] [(3, some ⟨0, 0, false, false, false, false, [⟨.sh, 0, 0, .row 3 (List.map e_S_Finding (out_o3_l3.set i_4_l3.toNat x20))⟩]⟩)]) rfl (sq z24 (oMv rfl rfl) <| sq z24 (oBi rfl rfl rfl rfl) <| sq z24 (oAsI rfl rfl) <| nl) ?_
      refine Unw.nil ?_
      cases h
      exact ⟨rfl, rfl⟩
    · rw [if_neg hc3] at h
      refine Go.condF rfl (byF iDec hc3) ?_
      refine Go.exit ?_
      refine Unw.seqx ?_
      refine Unw.nil ?_
      cases h
      exact ⟨rfl, rfl⟩
  · rintro ⟨e, st⟩ hp
    obtain ⟨out_o3_e0_3, rfl⟩ : ∃ y, y = o := ⟨o, rfl⟩
    obtain ⟨he, hst⟩ := hp
    obtain rfl : e = .exit 0 := he
    refine Unw.blkx ?_
    refine Unw.seq ?_
    refine Go.seq ?_
    refine Go.r1 c24 rfl rfl hst (sq z24 (oMv rfl rfl) <| sq z24 (oAsO rfl rfl rfl rfl rfl) <| nl) ?_
    refine Unw.seq ?_
    refine Go.ret (Unw.ret ?_)
    cases h
    exact Fin_ret (fin_of rfl rF24 rfl rfl)
theorem L_spec_l00In {n_0 : Int} {low_1 : Int} {high_2 : Int} {r : Bool} (h : spec_l00In n_0 low_1 high_2 = some r) : FL Try.prog cfg 38 [.im 2 false [.sc (.int .i64 n_0)], .im 2 false [.sc (.int .i64 low_1)], .im 2 false [.sc (.int .i64 high_2)]] = some ([(false, [.im 0 (.sc (.bool r))])], []) := by
  unfold spec_l00In at h
  refine FL_goS (A := [(0, .v false [.im 2 (.sc (.int .i64 n_0))]), (1, .v false [.im 2 (.sc (.int .i64 low_1))]), (2, .v false [.im 2 (.sc (.int .i64 high_2))])]) (B := [(0, none), (1, none), (2, none)]) (nt := 15) rfl rfl Try.func38 rfl rfl rfl rfl ?_
  refine Go.seq ?_
  refine Go.r0 c38 rfl rfl (sq z38 (oAsI rfl rfl) <| nl) ?_
  refine Unw.seq ?_
  refine Go.seq ?_
  refine Go.rX c38 rfl rfl rfl (mk [(6, bv ((decide (n_0 ≥ low_1)) && (decide (n_0 ≤ high_2))))] []) ?_ ?_
  · by_cases hc1 : n_0 ≥ low_1
    · exact ⟨_, sq z38 (oMv rfl rfl) <| sq z38 (oMv rfl rfl) <| sq z38 (oBi rfl rfl rfl rfl) <| sq z38 (oMv rfl rfl) <| sgT z38 rfl rfl (iDec.2 hc1) (oMv rfl rfl) <| sgT z38 rfl rfl (iDec.2 hc1) (oMv rfl rfl) <| sgT z38 rfl rfl (iDec.2 hc1) (oBi rfl rfl rfl rfl) <| sq z38 (oPkT rfl rfl (iDec.2 hc1) rfl) <| sq z38 (oAsI rfl rfl) <| nl, (by (try rw [(iDec.2 hc1)]); rfl)⟩
    · exact ⟨_, sq z38 (oMv rfl rfl) <| sq z38 (oMv rfl rfl) <| sq z38 (oBi rfl rfl rfl rfl) <| sq z38 (oMv rfl rfl) <| sgF rfl rfl (byF iDec hc1) rfl <| sgF rfl rfl (byF iDec hc1) rfl <| sgF rfl rfl (byF iDec hc1) rfl <| sq z38 (oPkF rfl rfl (byF iDec hc1) rfl) <| sq z38 (oAsI rfl rfl) <| nl, (by (try rw [(byF iDec hc1)]); rfl)⟩
  · refine Unw.seq ?_
    refine Go.ret (Unw.ret ?_)
    cases h
    exact Fin_ret (fin_of rfl rF38 rfl rfl)
theorem L_spec_l31Kind {kind_0 : Int} {r : Bool} (h : spec_l31Kind kind_0 = some r) : FL Try.prog cfg 36 [.im 2 false [.sc (.int .i64 kind_0)]] = some ([(false, [.im 0 (.sc (.bool r))])], []) := by
  unfold spec_l31Kind at h
  refine FL_goS (A := [(0, .v false [.im 2 (.sc (.int .i64 kind_0))])]) (B := [(0, none)]) (nt := 5) rfl rfl Try.func36 rfl rfl rfl rfl ?_
  refine Go.seq ?_
  refine Go.r0 c36 rfl rfl (sq z36 (oAsI rfl rfl) <| nl) ?_
  refine Unw.seq ?_
  refine Go.seq ?_
  obtain ⟨x4, hx4, h⟩ := bs h
  refine Go.r0 c36 rfl rfl (sq z36 (oMv rfl rfl) <| sq z36 (oCa (xs := [.v false [.im 2 _], .v false [.im 0 _], .v false [.im 0 _]]) (vs := [(false, [.im 0 _])]) (v := .v false [.im 0 _]) (L_spec_l00In hx4) rfl rfl kF38_2_2_2 rfl (ppC rfl (ppC rfl (ppC rfl pp0))) rfl rfl pb0 rfl rfl rfl) <| sq z36 (oAsI rfl rfl) <| nl) ?_
  refine Unw.seq ?_
  refine Go.ret (Unw.ret ?_)
  cases h
  exact Fin_ret (fin_of rfl rF36 rfl rfl)
theorem L_spec_CountFindings {list_0 : (List S_Finding)} {r : (List Int)} (h : spec_CountFindings list_0 = some r) : FL Try.prog cfg 23 [.im 2 false [.row 3 (List.map e_S_Finding list_0)]] = some ([(false, [.ow 0 1 (List.map eI r)])], []) := by
  unfold spec_CountFindings at h
  refine FL_goS (A := [(0, .v false [.im 2 (.row 3 (List.map e_S_Finding list_0))])]) (B := [(0, none)]) (nt := 34) rfl rfl Try.func23 rfl rfl rfl rfl ?_
  refine Go.seq ?_
  refine Go.r0 c23 rfl rfl (sq z23 (oAsN rfl rfl eF38) <| nl) ?_
  refine Unw.seq ?_
  refine Go.seq ?_
  obtain ⟨x5, hx5, h⟩ := bs h
  refine Go.r0 c23 rfl rfl (sq z23 (oMk (en := eI) rfl hx5 rfl sF38 rfl rfl (fxI fx0) rfl (flat0 (L := [_]) rfl fun _ => rfl)) <| sq z23 (oAsO rfl rfl rfl rfl rfl) <| nl) ?_
  refine Unw.seq ?_
  refine Go.seq ?_
  refine Go.seq ?_
  refine Go.r0 c23 rfl rfl (sq z23 (oAsI rfl rfl) <| nl) ?_
  refine Unw.seq ?_
  refine Go.block ?_
  obtain ⟨o, hl, h⟩ := bs h
  refine Go.lp c23 rfl _ (fun (s : (Int × (List Int))) => match s with | (i_4_l3, out_o3_l3) => mk [(0, .v false [.im 2 (.row 3 (List.map e_S_Finding list_0))]), (3, .v false [.own 3 0 0]), (4, iv i_4_l3)] [(3, some ⟨0, 0, false, false, false, false, [⟨.sh, 0, 0, .row 1 (List.map eI out_o3_l3)⟩]⟩)]) (fun (out_o3_e0_3 : (List Int)) (p : Ex × St) => p.1 = .exit 0 ∧ p.2.norm ([3], [3]) = mk [(3, .v false [.own 3 0 0])] [(3, some ⟨0, 0, false, false, false, false, [⟨.sh, 0, 0, .row 1 (List.map eI out_o3_e0_3)⟩]⟩)]) hl rfl ?_ ?_ ?_
  · intro o p hp e
    exact nomatch (hp.1.symm.trans e)
  · rintro ⟨i_4_l3, out_o3_l3⟩ o h
    unfold spec_CountFindings_l3 at h
    dsimp only at h
    refine Go.seq ?_
    refine Go.seq ?_
    refine Go.r0 c23 rfl rfl (sq z23 (oMv rfl rfl) <| sq z23 (oMv rfl rfl) <| sq z23 (oLnI rfl rfl uF40 rfl) <| sq z23 (oBi rfl rfl rfl rfl) <| nl) ?_
    refine Unw.seq ?_
    by_cases hc5 : i_4_l3 < (list_0.length : Int)
    · rw [if_pos hc5] at h
      refine Go.condT rfl (iDec.2 hc5) ?_
      refine Go.skip ?_
      refine Unw.seq ?_
      refine Go.seq ?_
      refine Go.join (fun st => ∃ out_o3_r4, spec_CountFindings_k4 i_4_l3 out_o3_r4 = some o ∧ st.norm ([0, 3, 4], [3]) = mk [(0, .v false [.im 2 (.row 3 (List.map e_S_Finding list_0))]), (3, .v false [.own 3 0 0]), (4, iv i_4_l3)] [(3, some ⟨0, 0, false, false, false, false, [⟨.sh, 0, 0, .row 1 (List.map eI out_o3_r4)⟩]⟩)]) ?_ ?_
      · rintro st ⟨out_o3_r4, h, hst⟩
        unfold spec_CountFindings_k4 at h
        refine Unw.seq ?_
        refine Go.r1 c23 rfl rfl hst (sq z23 (oMv rfl rfl) <| sq z23 (oBi rfl rfl rfl rfl) <| sq z23 (oAsI rfl rfl) <| nl) ?_
        refine Unw.nil ?_
        cases h
        exact ⟨rfl, rfl⟩
      · intro K7
        refine Go.block ?_
        refine Go.seq ?_
        obtain ⟨x14, hx14, h⟩ := bs h
        obtain ⟨x17, hx17, h⟩ := bs h
        refine Go.r0 c23 rfl rfl (sq z23 (oMv rfl rfl) <| sq z23 (oMv rfl rfl) <| sq z23 (oIAI rfl hx14 sF40 rfl rfl) <| sq z23 (oFA (r' := .im 2 _) rfl fF33_0 rfl rfl) <| sq z23 (oLd (cs := [.im 2 _]) rfl tF2 rfl rfl) <| sq z23 (oCa (xs := [.v false [.im 2 _]]) (vs := [(false, [.im 0 _])]) (v := .v false [.im 0 _]) (L_spec_l31Kind hx17) rfl rfl kF36_2 rfl (ppC rfl pp0) rfl rfl pb0 rfl rfl rfl) <| nl) ?_
        refine Unw.seq ?_
        by_cases hc8 : x17 = true
        · rw [if_pos hc8] at h
          refine Go.condT rfl (Iff.rfl.2 hc8) ?_
          refine Go.seq ?_
          obtain ⟨x21, hx21, h⟩ := bs h
          obtain ⟨x24, hx24, h⟩ := bs h
          obtain ⟨x27, hx27, h⟩ := bs h
          refine Go.r0 c23 rfl rfl (sq z23 (oMv rfl rfl) <| sq z23 (oMv rfl rfl) <| sq z23 (oMv rfl rfl) <| sq z23 (oIAI rfl hx21 sF40 rfl rfl) <| sq z23 (oFA (r' := .im 2 _) rfl fF33_0 rfl rfl) <| sq z23 (oLd (cs := [.im 2 _]) rfl tF2 rfl rfl) <| sq z23 (oIAO rfl hx24 sF38 rfl rfl rfl rfl) <| sq z23 (oLdE (cs := [.im 0 _]) rfl tF2 rfl rfl rfl (fun e => nomatch e) (rd_get hx24) rfl rfl) <| sq z23 (oBi rfl rfl rfl rfl) <| sq z23 (oIAO rfl hx27 sF38 rfl rfl rfl rfl) <| sq z23 (oStE (v' := (w64 (x24 + 1))) tF2 rfl rfl rfl (fxI fx0) rfl rfl (rd_get hx27) rfl) <| nl) ?_
          refine Unw.seq ?_
          obtain ⟨x29, hx29, h⟩ := bs h
          obtain ⟨x32, hx32, h⟩ := bs h
          refine Go.r1 c23 rfl rfl (st1 := mk [(0, .v false [.im 2 (.row 3 (List.map e_S_Finding list_0))]), (3, .v false [.own 3 0 0]), (4, iv i_4_l3)] [(3, some ⟨0, 0, false, false, false, false, [⟨.sh, 0, 0, .row 1 (List.map eI (out_o3_l3.set x21.Kind.toNat (w64 (x24 + 1))))⟩]⟩)]) rfl (sq z23 (oMv rfl rfl) <| sq z23 (oIAO rfl hx29 sF38 rfl rfl rfl rfl) <| sq z23 (oLdE (cs := [.im 0 _]) rfl tF2 rfl rfl rfl (fun e => nomatch e) (rd_get hx29) rfl rfl) <| sq z23 (oBi rfl rfl rfl rfl) <| sq z23 (oIAO rfl hx32 sF38 rfl rfl rfl rfl) <| sq z23 (oStE (v' := (w64 (x29 + 1))) tF2 rfl rfl rfl (fxI fx0) rfl rfl (rd_get hx32) rfl) <| nl) ?_
          refine Unw.blk ?_
          exact K7 _ ⟨((out_o3_l3.set x21.Kind.toNat (w64 (x24 + 1))).set ((0 : Int).toNat) (w64 (x29 + 1))), h, rfl⟩
        · rw [if_neg hc8] at h
          refine Go.condF rfl (byF Iff.rfl hc8) ?_
          refine Go.skip ?_
          refine Unw.blk ?_
          exact K7 _ ⟨out_o3_l3, h, rfl⟩
    · rw [if_neg hc5] at h
      refine Go.condF rfl (byF iDec hc5) ?_
      refine Go.exit ?_
      refine Unw.seqx ?_
      refine Unw.nil ?_
      cases h
      exact ⟨rfl, rfl⟩
  · rintro ⟨e, st⟩ hp
    obtain ⟨out_o3_e0_3, rfl⟩ : ∃ y, y = o := ⟨o, rfl⟩
    obtain ⟨he, hst⟩ := hp
    obtain rfl : e = .exit 0 := he
    refine Unw.blkx ?_
    refine Unw.seq ?_
    refine Go.seq ?_
    refine Go.r1 c23 rfl rfl hst (sq z23 (oMv rfl rfl) <| sq z23 (oAsO rfl rfl rfl rfl rfl) <| nl) ?_
    refine Unw.seq ?_
    refine Go.ret (Unw.ret ?_)
    cases h
    exact Fin_ret (fin_of rfl rF23 rfl rfl)
theorem L_impl_within {n_0 : Int} {low_1 : Int} {high_2 : Int} {r : Bool} (h : impl_within n_0 low_1 high_2 = some r) : FL Try.prog cfg 41 [.im 2 false [.sc (.int .i64 n_0)], .im 2 false [.sc (.int .i64 low_1)], .im 2 false [.sc (.int .i64 high_2)]] = some ([(false, [.im 0 (.sc (.bool r))])], []) := by
  unfold impl_within at h
  refine FL_goS (A := [(0, .v false [.im 2 (.sc (.int .i64 n_0))]), (1, .v false [.im 2 (.sc (.int .i64 low_1))]), (2, .v false [.im 2 (.sc (.int .i64 high_2))])]) (B := [(0, none), (1, none), (2, none)]) (nt := 15) rfl rfl Try.func41 rfl rfl rfl rfl ?_
  refine Go.seq ?_
  refine Go.r0 c41 rfl rfl (sq z41 (oAsI rfl rfl) <| nl) ?_
  refine Unw.seq ?_
  refine Go.seq ?_
  refine Go.rX c41 rfl rfl rfl (mk [(6, bv ((decide (n_0 ≥ low_1)) && (decide (n_0 ≤ high_2))))] []) ?_ ?_
  · by_cases hc1 : n_0 ≥ low_1
    · exact ⟨_, sq z41 (oMv rfl rfl) <| sq z41 (oMv rfl rfl) <| sq z41 (oBi rfl rfl rfl rfl) <| sq z41 (oMv rfl rfl) <| sgT z41 rfl rfl (iDec.2 hc1) (oMv rfl rfl) <| sgT z41 rfl rfl (iDec.2 hc1) (oMv rfl rfl) <| sgT z41 rfl rfl (iDec.2 hc1) (oBi rfl rfl rfl rfl) <| sq z41 (oPkT rfl rfl (iDec.2 hc1) rfl) <| sq z41 (oAsI rfl rfl) <| nl, (by (try rw [(iDec.2 hc1)]); rfl)⟩
    · exact ⟨_, sq z41 (oMv rfl rfl) <| sq z41 (oMv rfl rfl) <| sq z41 (oBi rfl rfl rfl rfl) <| sq z41 (oMv rfl rfl) <| sgF rfl rfl (byF iDec hc1) rfl <| sgF rfl rfl (byF iDec hc1) rfl <| sgF rfl rfl (byF iDec hc1) rfl <| sq z41 (oPkF rfl rfl (byF iDec hc1) rfl) <| sq z41 (oAsI rfl rfl) <| nl, (by (try rw [(byF iDec hc1)]); rfl)⟩
  · refine Unw.seq ?_
    refine Go.ret (Unw.ret ?_)
    cases h
    exact Fin_ret (fin_of rfl rF41 rfl rfl)
theorem L_impl_CountFindings {list_0 : (List S_Finding)} {r : (List Int)} (h : impl_CountFindings list_0 = some r) : FL Try.prog cfg 25 [.im 2 false [.row 3 (List.map e_S_Finding list_0)]] = some ([(false, [.ow 0 1 (List.map eI r)])], []) := by
  unfold impl_CountFindings at h
  refine FL_goS (A := [(0, .v false [.im 2 (.row 3 (List.map e_S_Finding list_0))])]) (B := [(0, none)]) (nt := 30) rfl rfl Try.func25 rfl rfl rfl rfl ?_
  refine Go.seq ?_
  refine Go.r0 c25 rfl rfl (sq z25 (oAsN rfl rfl eF38) <| nl) ?_
  refine Unw.seq ?_
  refine Go.seq ?_
  obtain ⟨x6, hx6, h⟩ := bs h
  refine Go.r0 c25 rfl rfl (sq z25 (oMk (en := eI) rfl hx6 rfl sF38 rfl rfl (fxI fx0) rfl (flat0 (L := [_]) rfl fun _ => rfl)) <| sq z25 (oAsO rfl rfl rfl rfl rfl) <| nl) ?_
  refine Unw.seq ?_
  refine Go.seq ?_
  refine Go.seq ?_
  refine Go.r0 c25 rfl rfl (sq z25 (oMv rfl rfl) <| sq z25 (oLnI rfl rfl uF40 rfl) <| sq z25 (oMv rfl rfl) <| nl) ?_
  refine Unw.seq ?_
  refine Go.block ?_
  obtain ⟨o, hl, h⟩ := bs h
  refine Go.lp c25 rfl _ (fun (s : (Int × (List Int))) => match s with | (t_9_l3, out_o3_l3) => mk [(3, .v false [.own 3 0 0]), (7, .v false [.im 2 (.row 3 (List.map e_S_Finding list_0))]), (8, iv (list_0.length : Int)), (9, iv t_9_l3)] [(3, some ⟨0, 0, false, false, false, false, [⟨.sh, 0, 0, .row 1 (List.map eI out_o3_l3)⟩]⟩)]) (fun (out_o3_e0_3 : (List Int)) (p : Ex × St) => p.1 = .exit 0 ∧ p.2.norm ([3], [3]) = mk [(3, .v false [.own 3 0 0])] [(3, some ⟨0, 0, false, false, false, false, [⟨.sh, 0, 0, .row 1 (List.map eI out_o3_e0_3)⟩]⟩)]) hl rfl ?_ ?_ ?_
  · intro o p hp e
    exact nomatch (hp.1.symm.trans e)
  · rintro ⟨t_9_l3, out_o3_l3⟩ o h
    unfold impl_CountFindings_l3 at h
    dsimp only at h
    refine Go.seq ?_
    refine Go.r0 c25 rfl rfl (sq z25 (oBi rfl rfl rfl rfl) <| nl) ?_
    refine Unw.seq ?_
    refine Go.seq ?_
    by_cases hc5 : t_9_l3 < (list_0.length : Int)
    · rw [if_pos hc5] at h
      refine Go.condT rfl (iDec.2 hc5) ?_
      refine Go.skip ?_
      refine Unw.seq ?_
      refine Go.seq ?_
      refine Go.join (fun st => ∃ out_o3_r8, impl_CountFindings_k8 t_9_l3 out_o3_r8 = some o ∧ st.norm ([3, 7, 8, 9], [3]) = mk [(3, .v false [.own 3 0 0]), (7, .v false [.im 2 (.row 3 (List.map e_S_Finding list_0))]), (8, iv (list_0.length : Int)), (9, iv t_9_l3)] [(3, some ⟨0, 0, false, false, false, false, [⟨.sh, 0, 0, .row 1 (List.map eI out_o3_r8)⟩]⟩)]) ?_ ?_
      · rintro st ⟨out_o3_r8, h, hst⟩
        unfold impl_CountFindings_k8 at h
        refine Unw.seq ?_
        refine Go.r1 c25 rfl rfl hst (sq z25 (oBi rfl rfl rfl rfl) <| sq z25 (oMv rfl rfl) <| nl) ?_
        refine Unw.nil ?_
        cases h
        exact ⟨rfl, rfl⟩
      · intro K7
        refine Go.block ?_
        refine Go.seq ?_
        obtain ⟨x11, hx11, h⟩ := bs h
        refine Go.r0 c25 rfl rfl (sq z25 (oIAI rfl hx11 sF40 rfl rfl) <| sq z25 (oLd (cs := [.im 2 _, .im 2 _, .im 2 _]) rfl tF33 rfl rfl) <| sq z25 (oAl rfl tF33 (tkI (tkI (tkI tk0)))) <| sq z25 (oSt tF33 rfl rfl rfl (tkI (tkI (tkI tk0))) rfl rfl rfl) <| nl) ?_
        refine Unw.seq ?_
        refine Go.seq ?_
        obtain ⟨x15, hx15, h⟩ := bs h
        refine Go.r1 c25 rfl rfl (st1 := mk [(3, .v false [.own 3 0 0]), (5, .v false [.mp 5 0 0]), (7, .v false [.im 2 (.row 3 (List.map e_S_Finding list_0))]), (8, iv (list_0.length : Int)), (9, iv t_9_l3)] [(3, some ⟨0, 0, false, false, false, false, [⟨.sh, 0, 0, .row 1 (List.map eI out_o3_l3)⟩]⟩), (5, some ⟨0, 0, false, true, false, true, [⟨.imm, 0, 0, .sc (.int .i64 x11.Kind)⟩, ⟨.imm, 0, 0, .sc (.string x11.Who)⟩, ⟨.imm, 0, 0, .sc (.string x11.What)⟩]⟩)]) rfl (sq z25 (oFA (r' := .mp 5 0 0) rfl fF33_0 rfl rfl) <| sq z25 (oLd (cs := [.im 0 _]) rfl tF2 rfl rfl) <| sq z25 (oCa (xs := [.v false [.im 0 _], .v false [.im 0 _], .v false [.im 0 _]]) (vs := [(false, [.im 0 _])]) (v := .v false [.im 0 _]) (L_impl_within hx15) rfl rfl kF41_2_2_2 rfl (ppC rfl (ppC rfl (ppC rfl pp0))) rfl rfl pb0 rfl rfl rfl) <| nl) ?_
        refine Unw.seq ?_
        by_cases hc8 : x15 = true
        · rw [if_pos hc8] at h
          refine Go.condT rfl (Iff.rfl.2 hc8) ?_
          refine Go.seq ?_
          obtain ⟨x17, hx17, h⟩ := bs h
          obtain ⟨x20, hx20, h⟩ := bs h
          refine Go.r0 c25 rfl rfl (sq z25 (oMv rfl rfl) <| sq z25 (oIAO rfl hx17 sF38 rfl rfl rfl rfl) <| sq z25 (oLdE (cs := [.im 0 _]) rfl tF2 rfl rfl rfl (fun e => nomatch e) (rd_get hx17) rfl rfl) <| sq z25 (oBi rfl rfl rfl rfl) <| sq z25 (oIAO rfl hx20 sF38 rfl rfl rfl rfl) <| sq z25 (oStE (v' := (w64 (x17 + 1))) tF2 rfl rfl rfl (fxI fx0) rfl rfl (rd_get hx20) rfl) <| nl) ?_
          refine Unw.seq ?_
          obtain ⟨x24, hx24, h⟩ := bs h
          obtain ⟨x27, hx27, h⟩ := bs h
          refine Go.r1 c25 rfl rfl (st1 := mk [(3, .v false [.own 3 0 0]), (5, .v false [.mp 5 0 0]), (7, .v false [.im 2 (.row 3 (List.map e_S_Finding list_0))]), (8, iv (list_0.length : Int)), (9, iv t_9_l3)] [(3, some ⟨0, 0, false, false, false, false, [⟨.sh, 0, 0, .row 1 (List.map eI (out_o3_l3.set ((0 : Int).toNat) (w64 (x17 + 1))))⟩]⟩), (5, some ⟨0, 0, false, true, false, true, [⟨.imm, 0, 0, .sc (.int .i64 x11.Kind)⟩, ⟨.imm, 0, 0, .sc (.string x11.Who)⟩, ⟨.imm, 0, 0, .sc (.string x11.What)⟩]⟩)]) rfl (sq z25 (oMv rfl rfl) <| sq z25 (oFA (r' := .mp 5 0 0) rfl fF33_0 rfl rfl) <| sq z25 (oLd (cs := [.im 0 _]) rfl tF2 rfl rfl) <| sq z25 (oIAO rfl hx24 sF38 rfl rfl rfl rfl) <| sq z25 (oLdE (cs := [.im 0 _]) rfl tF2 rfl rfl rfl (fun e => nomatch e) (rd_get hx24) rfl rfl) <| sq z25 (oBi rfl rfl rfl rfl) <| sq z25 (oIAO rfl hx27 sF38 rfl rfl rfl rfl) <| sq z25 (oStE (v' := (w64 (x24 + 1))) tF2 rfl rfl rfl (fxI fx0) rfl rfl (rd_get hx27) rfl) <| nl) ?_
          refine Unw.blk ?_
          exact K7 _ ⟨((out_o3_l3.set ((0 : Int).toNat) (w64 (x17 + 1))).set x11.Kind.toNat (w64 (x24 + 1))), h, rfl⟩
        · rw [if_neg hc8] at h
          refine Go.condF rfl (byF Iff.rfl hc8) ?_
          refine Go.skip ?_
          refine Unw.blk ?_
          exact K7 _ ⟨out_o3_l3, h, rfl⟩
    · rw [if_neg hc5] at h
      refine Go.condF rfl (byF iDec hc5) ?_
      refine Go.exit ?_
      refine Unw.seqx ?_
      refine Unw.nil ?_
      cases h
      exact ⟨rfl, rfl⟩
  · rintro ⟨e, st⟩ hp
    obtain ⟨out_o3_e0_3, rfl⟩ : ∃ y, y = o := ⟨o, rfl⟩
    obtain ⟨he, hst⟩ := hp
    obtain rfl : e = .exit 0 := he
    refine Unw.blkx ?_
    refine Unw.seq ?_
    refine Go.seq ?_
    refine Go.r1 c25 rfl rfl hst (sq z25 (oMv rfl rfl) <| sq z25 (oAsO rfl rfl rfl rfl rfl) <| nl) ?_
    refine Unw.seq ?_
    refine Go.ret (Unw.ret ?_)
    cases h
    exact Fin_ret (fin_of rfl rF25 rfl rfl)
theorem L_laws_eqInt64S {a_0 : (List Int)} {b_1 : (List Int)} {r : Bool} (h : laws_eqInt64S a_0 b_1 = some r) : FL Try.prog cfg 26 [.im 2 false [.row 1 (List.map eI a_0)], .im 2 false [.row 1 (List.map eI b_1)]] = some ([(false, [.im 0 (.sc (.bool r))])], []) := by
  unfold laws_eqInt64S at h
  refine FL_goS (A := [(0, .v false [.im 2 (.row 1 (List.map eI a_0))]), (1, .v false [.im 2 (.row 1 (List.map eI b_1))])]) (B := [(0, none), (1, none)]) (nt := 26) rfl rfl Try.func26 rfl rfl rfl rfl ?_
  refine Go.seq ?_
  refine Go.r0 c26 rfl rfl (sq z26 (oAsI rfl rfl) <| nl) ?_
  refine Unw.seq ?_
  refine Go.seq ?_
  refine Go.seq ?_
  refine Go.r0 c26 rfl rfl (sq z26 (oMv rfl rfl) <| sq z26 (oLnI rfl rfl uF38 rfl) <| sq z26 (oMv rfl rfl) <| sq z26 (oLnI rfl rfl uF38 rfl) <| sq z26 (oBi rfl rfl rfl rfl) <| nl) ?_
  refine Unw.seq ?_
  by_cases hc1 : (a_0.length : Int) ≠ (b_1.length : Int)
  · rw [if_pos hc1] at h
    refine Go.condT rfl (iNe.2 hc1) ?_
    refine Go.seq ?_
    refine Go.r0 c26 rfl rfl (sq z26 (oAsI rfl rfl) <| nl) ?_
    refine Unw.seq ?_
    refine Go.ret (Unw.ret ?_)
    cases h
    exact Fin_ret (fin_of rfl rF26 rfl rfl)
  · rw [if_neg hc1] at h
    refine Go.condF rfl (byF iNe hc1) ?_
    refine Go.skip ?_
    refine Unw.seq ?_
    refine Go.seq ?_
    refine Go.seq ?_
    refine Go.r0 c26 rfl rfl (sq z26 (oAsI rfl rfl) <| nl) ?_
    refine Unw.seq ?_
    refine Go.block ?_
    obtain ⟨o, hl, h⟩ := bs h
    refine Go.lp c26 rfl _ (fun (i_5_l4 : Int) => mk [(0, .v false [.im 2 (.row 1 (List.map eI a_0))]), (1, .v false [.im 2 (.row 1 (List.map eI b_1))]), (5, iv i_5_l4)] []) (fun (o : (Unit ⊕ Bool)) (p : Ex × St) => match o with | (.inl _) => p.1 = .exit 0 ∧ p.2.norm ([], []) = mk [] [] | (.inr r2) => p.1 = .ret ∧ fin Try.prog cfg 26 Try.f26 [.im 2 false [.row 1 (List.map eI a_0)], .im 2 false [.row 1 (List.map eI b_1)]] p.2 = some ([(false, [.im 0 (.sc (.bool r2))])], [])) hl rfl ?_ ?_ ?_
    · intro o p hp e
      rcases o with u | r2 <;> exact nomatch (hp.1.symm.trans e)
    · rintro i_5_l4 o h
      unfold laws_eqInt64S_l4 at h
      refine Go.seq ?_
      refine Go.seq ?_
      refine Go.r0 c26 rfl rfl (sq z26 (oMv rfl rfl) <| sq z26 (oMv rfl rfl) <| sq z26 (oLnI rfl rfl uF38 rfl) <| sq z26 (oBi rfl rfl rfl rfl) <| nl) ?_
      refine Unw.seq ?_
      by_cases hc6 : i_5_l4 < (a_0.length : Int)
      · rw [if_pos hc6] at h
        refine Go.condT rfl (iDec.2 hc6) ?_
        refine Go.skip ?_
        refine Unw.seq ?_
        refine Go.seq ?_
        refine Go.block ?_
        refine Go.seq ?_
        obtain ⟨x19, hx19, h⟩ := bs h
        obtain ⟨x23, hx23, h⟩ := bs h
        refine Go.dr c26 rfl rfl rfl rfl (mk [(0, .v false [.im 2 (.row 1 (List.map eI a_0))]), (1, .v false [.im 2 (.row 1 (List.map eI b_1))]), (5, iv i_5_l4), (25, bv (x19 != x23))] []) (sT rfl (dN z26 rfl (oMv rfl rfl)) <| sT rfl (dN z26 rfl (oMv rfl rfl)) <| sT rfl (dN z26 rfl (oIAI rfl hx19 sF38 rfl rfl)) <| sT rfl (dN z26 rfl (oLd (cs := [.im 2 _]) rfl tF2 rfl rfl)) <| sT rfl (dN z26 rfl (oMv rfl rfl)) <| sT rfl (dN z26 rfl (oMv rfl rfl)) <| sT rfl (dN z26 rfl (oIAI rfl hx23 sF38 rfl rfl)) <| sT rfl (dN z26 rfl (oLd (cs := [.im 2 _]) rfl tF2 rfl rfl)) <| sT rfl (dN z26 rfl (oBi rfl rfl rfl rfl)) <| sD rfl) ?_
        refine Unw.seq ?_
        by_cases hc7 : x19 ≠ x23
        · rw [if_pos hc7] at h
          refine Go.condT rfl (iNe.2 hc7) ?_
          refine Go.seq ?_
          refine Go.r0 c26 rfl rfl (sq z26 (oAsI rfl rfl) <| nl) ?_
          refine Unw.seq ?_
          refine Go.ret (Unw.ret ?_)
          cases h
          exact ⟨rfl, (fin_of rfl rF26 rfl rfl)⟩
        · rw [if_neg hc7] at h
          refine Go.condF rfl (byF iNe hc7) ?_
          refine Go.skip ?_
          refine Unw.blk ?_
          refine Unw.seq ?_
          refine Go.r0 c26 rfl rfl (sq z26 (oMv rfl rfl) <| sq z26 (oBi rfl rfl rfl rfl) <| sq z26 (oAsI rfl rfl) <| nl) ?_
          refine Unw.nil ?_
          cases h
          exact ⟨rfl, rfl⟩
      · rw [if_neg hc6] at h
        refine Go.condF rfl (byF iDec hc6) ?_
        refine Go.exit ?_
        refine Unw.seqx ?_
        refine Unw.nil ?_
        cases h
        exact ⟨rfl, rfl⟩
    · rintro ⟨e, st⟩ hp
      rcases o with u | r2
      · dsimp only at h
        obtain ⟨he, hst⟩ := hp
        obtain rfl : e = .exit 0 := he
        refine Unw.blkx ?_
        refine Unw.seq ?_
        refine Go.seq ?_
        refine Go.r1 c26 rfl rfl hst (sq z26 (oAsI rfl rfl) <| nl) ?_
        refine Unw.seq ?_
        refine Go.ret (Unw.ret ?_)
        cases h
        exact Fin_ret (fin_of rfl rF26 rfl rfl)
      · dsimp only at h
        obtain ⟨he, hfin⟩ := hp
        obtain rfl : e = .ret := he
        cases h
        exact Unw.ret (Fin_ret hfin)
theorem L_laws_eqFinding {a_0 : S_Finding} {b_1 : S_Finding} {r : Bool} (h : laws_eqFinding a_0 b_1 = some r) : FL Try.prog cfg 42 [.im 2 true [.sc (.int .i64 a_0.Kind), .sc (.string a_0.Who), .sc (.string a_0.What)], .im 2 true [.sc (.int .i64 b_1.Kind), .sc (.string b_1.Who), .sc (.string b_1.What)]] = some ([(false, [.im 0 (.sc (.bool r))])], []) := by
  unfold laws_eqFinding at h
  refine FL_goS (A := [(0, .v true [.im 2 (.sc (.int .i64 a_0.Kind)), .im 2 (.sc (.string a_0.Who)), .im 2 (.sc (.string a_0.What))]), (1, .v true [.im 2 (.sc (.int .i64 b_1.Kind)), .im 2 (.sc (.string b_1.Who)), .im 2 (.sc (.string b_1.What))])]) (B := [(0, none), (1, none)]) (nt := 20) rfl rfl Try.func42 rfl rfl rfl rfl ?_
  refine Go.seq ?_
  refine Go.r0 c42 rfl rfl (sq z42 (oBx rfl tF33 rfl (tkI (tkI (tkI tk0)))) <| sq z42 (oBx rfl tF33 rfl (tkI (tkI (tkI tk0)))) <| sq z42 (oAsI rfl rfl) <| nl) ?_
  refine Unw.seq ?_
  refine Go.seq ?_
  refine Go.seq ?_
  refine Go.r0 c42 rfl rfl (sq z42 (oFA (r' := .mp 2 0 0) rfl fF33_0 rfl rfl) <| sq z42 (oLd (cs := [.im 0 _]) rfl tF2 rfl rfl) <| sq z42 (oFA (r' := .mp 3 0 0) rfl fF33_0 rfl rfl) <| sq z42 (oLd (cs := [.im 0 _]) rfl tF2 rfl rfl) <| sq z42 (oBi rfl rfl rfl rfl) <| nl) ?_
  refine Unw.seq ?_
  by_cases hc1 : a_0.Kind ≠ b_1.Kind
  · rw [if_pos hc1] at h
    refine Go.condT rfl (iNe.2 hc1) ?_
    refine Go.seq ?_
    refine Go.r0 c42 rfl rfl (sq z42 (oAsI rfl rfl) <| nl) ?_
    refine Unw.seq ?_
    refine Go.ret (Unw.ret ?_)
    cases h
    exact Fin_ret (fin_of rfl rF42 rfl rfl)
  · rw [if_neg hc1] at h
    refine Go.condF rfl (byF iNe hc1) ?_
    refine Go.skip ?_
    refine Unw.seq ?_
    refine Go.seq ?_
    refine Go.seq ?_
    refine Go.r0 c42 rfl rfl (sq z42 (oFA (r' := .mp 2 0 1) rfl fF33_1 rfl rfl) <| sq z42 (oLd (cs := [.im 0 _]) rfl tF9 rfl rfl) <| sq z42 (oFA (r' := .mp 3 0 1) rfl fF33_1 rfl rfl) <| sq z42 (oLd (cs := [.im 0 _]) rfl tF9 rfl rfl) <| sq z42 (oBi rfl rfl rfl rfl) <| nl) ?_
    refine Unw.seq ?_
    by_cases hc2 : ¬ (a_0.Who = b_1.Who)
    · rw [if_pos hc2] at h
      refine Go.condT rfl ((iNot iStr).2 hc2) ?_
      refine Go.seq ?_
      refine Go.r0 c42 rfl rfl (sq z42 (oAsI rfl rfl) <| nl) ?_
      refine Unw.seq ?_
      refine Go.ret (Unw.ret ?_)
      cases h
      exact Fin_ret (fin_of rfl rF42 rfl rfl)
    · rw [if_neg hc2] at h
      refine Go.condF rfl (byF (iNot iStr) hc2) ?_
      refine Go.skip ?_
      refine Unw.seq ?_
      refine Go.seq ?_
      refine Go.seq ?_
      refine Go.r0 c42 rfl rfl (sq z42 (oFA (r' := .mp 2 0 2) rfl fF33_2 rfl rfl) <| sq z42 (oLd (cs := [.im 0 _]) rfl tF9 rfl rfl) <| sq z42 (oFA (r' := .mp 3 0 2) rfl fF33_2 rfl rfl) <| sq z42 (oLd (cs := [.im 0 _]) rfl tF9 rfl rfl) <| sq z42 (oBi rfl rfl rfl rfl) <| nl) ?_
      refine Unw.seq ?_
      by_cases hc3 : ¬ (a_0.What = b_1.What)
      · rw [if_pos hc3] at h
        refine Go.condT rfl ((iNot iStr).2 hc3) ?_
        refine Go.seq ?_
        refine Go.r0 c42 rfl rfl (sq z42 (oAsI rfl rfl) <| nl) ?_
        refine Unw.seq ?_
        refine Go.ret (Unw.ret ?_)
        cases h
        exact Fin_ret (fin_of rfl rF42 rfl rfl)
      · rw [if_neg hc3] at h
        refine Go.condF rfl (byF (iNot iStr) hc3) ?_
        refine Go.skip ?_
        refine Unw.seq ?_
        refine Go.seq ?_
        refine Go.r0 c42 rfl rfl (sq z42 (oAsI rfl rfl) <| nl) ?_
        refine Unw.seq ?_
        refine Go.ret (Unw.ret ?_)
        cases h
        exact Fin_ret (fin_of rfl rF42 rfl rfl)
theorem L_laws_eqFindingS {a_0 : (List S_Finding)} {b_1 : (List S_Finding)} {r : Bool} (h : laws_eqFindingS a_0 b_1 = some r) : FL Try.prog cfg 27 [.im 2 false [.row 3 (List.map e_S_Finding a_0)], .im 2 false [.row 3 (List.map e_S_Finding b_1)]] = some ([(false, [.im 0 (.sc (.bool r))])], []) := by
  unfold laws_eqFindingS at h
  refine FL_goS (A := [(0, .v false [.im 2 (.row 3 (List.map e_S_Finding a_0))]), (1, .v false [.im 2 (.row 3 (List.map e_S_Finding b_1))])]) (B := [(0, none), (1, none)]) (nt := 27) rfl rfl Try.func27 rfl rfl rfl rfl ?_
  refine Go.seq ?_
  refine Go.r0 c27 rfl rfl (sq z27 (oAsI rfl rfl) <| nl) ?_
  refine Unw.seq ?_
  refine Go.seq ?_
  refine Go.seq ?_
  refine Go.r0 c27 rfl rfl (sq z27 (oMv rfl rfl) <| sq z27 (oLnI rfl rfl uF40 rfl) <| sq z27 (oMv rfl rfl) <| sq z27 (oLnI rfl rfl uF40 rfl) <| sq z27 (oBi rfl rfl rfl rfl) <| nl) ?_
  refine Unw.seq ?_
  by_cases hc1 : (a_0.length : Int) ≠ (b_1.length : Int)
  · rw [if_pos hc1] at h
    refine Go.condT rfl (iNe.2 hc1) ?_
    refine Go.seq ?_
    refine Go.r0 c27 rfl rfl (sq z27 (oAsI rfl rfl) <| nl) ?_
    refine Unw.seq ?_
    refine Go.ret (Unw.ret ?_)
    cases h
    exact Fin_ret (fin_of rfl rF27 rfl rfl)
  · rw [if_neg hc1] at h
    refine Go.condF rfl (byF iNe hc1) ?_
    refine Go.skip ?_
    refine Unw.seq ?_
    refine Go.seq ?_
    refine Go.seq ?_
    refine Go.r0 c27 rfl rfl (sq z27 (oAsI rfl rfl) <| nl) ?_
    refine Unw.seq ?_
    refine Go.block ?_
    obtain ⟨o, hl, h⟩ := bs h
    refine Go.lp c27 rfl _ (fun (i_5_l4 : Int) => mk [(0, .v false [.im 2 (.row 3 (List.map e_S_Finding a_0))]), (1, .v false [.im 2 (.row 3 (List.map e_S_Finding b_1))]), (5, iv i_5_l4)] []) (fun (o : (Unit ⊕ Bool)) (p : Ex × St) => match o with | (.inl _) => p.1 = .exit 0 ∧ p.2.norm ([], []) = mk [] [] | (.inr r2) => p.1 = .ret ∧ fin Try.prog cfg 27 Try.f27 [.im 2 false [.row 3 (List.map e_S_Finding a_0)], .im 2 false [.row 3 (List.map e_S_Finding b_1)]] p.2 = some ([(false, [.im 0 (.sc (.bool r2))])], [])) hl rfl ?_ ?_ ?_
    · intro o p hp e
      rcases o with u | r2 <;> exact nomatch (hp.1.symm.trans e)
    · rintro i_5_l4 o h
      unfold laws_eqFindingS_l4 at h
      refine Go.seq ?_
      refine Go.seq ?_
      refine Go.r0 c27 rfl rfl (sq z27 (oMv rfl rfl) <| sq z27 (oMv rfl rfl) <| sq z27 (oLnI rfl rfl uF40 rfl) <| sq z27 (oBi rfl rfl rfl rfl) <| nl) ?_
      refine Unw.seq ?_
      by_cases hc6 : i_5_l4 < (a_0.length : Int)
      · rw [if_pos hc6] at h
        refine Go.condT rfl (iDec.2 hc6) ?_
        refine Go.skip ?_
        refine Unw.seq ?_
        refine Go.seq ?_
        refine Go.block ?_
        refine Go.seq ?_
        obtain ⟨x19, hx19, h⟩ := bs h
        obtain ⟨x23, hx23, h⟩ := bs h
        obtain ⟨x25, hx25, h⟩ := bs h
        refine Go.dr c27 rfl rfl rfl rfl (mk [(0, .v false [.im 2 (.row 3 (List.map e_S_Finding a_0))]), (1, .v false [.im 2 (.row 3 (List.map e_S_Finding b_1))]), (5, iv i_5_l4), (26, bv (!x25))] []) (sT rfl (dN z27 rfl (oMv rfl rfl)) <| sT rfl (dN z27 rfl (oMv rfl rfl)) <| sT rfl (dN z27 rfl (oIAI rfl hx19 sF40 rfl rfl)) <| sT rfl (dN z27 rfl (oLd (cs := [.im 2 _, .im 2 _, .im 2 _]) rfl tF33 rfl rfl)) <| sT rfl (dN z27 rfl (oMv rfl rfl)) <| sT rfl (dN z27 rfl (oMv rfl rfl)) <| sT rfl (dN z27 rfl (oIAI rfl hx23 sF40 rfl rfl)) <| sT rfl (dN z27 rfl (oLd (cs := [.im 2 _, .im 2 _, .im 2 _]) rfl tF33 rfl rfl)) <| sS (dN z27 rfl (oCa (xs := [.v true [.im 2 _, .im 2 _, .im 2 _], .v true [.im 2 _, .im 2 _, .im 2 _]]) (vs := [(false, [.im 0 _])]) (v := .v false [.im 0 _]) (L_laws_eqFinding hx25) rfl rfl kF42_33_33 rfl (ppC rfl (ppC rfl pp0)) rfl rfl pb0 rfl rfl rfl)) (sT rfl (dN z27 rfl (oUn rfl rfl rfl)) <| sD rfl)) ?_
        refine Unw.seq ?_
        by_cases hc7 : x25 = true
        · rw [if_pos hc7] at h
          refine Go.condF rfl (nF (Iff.rfl.2 hc7)) ?_
          refine Go.skip ?_
          refine Unw.blk ?_
          refine Unw.seq ?_
          refine Go.r0 c27 rfl rfl (sq z27 (oMv rfl rfl) <| sq z27 (oBi rfl rfl rfl rfl) <| sq z27 (oAsI rfl rfl) <| nl) ?_
          refine Unw.nil ?_
          cases h
          exact ⟨rfl, rfl⟩
        · rw [if_neg hc7] at h
          refine Go.condT rfl (nT (byF Iff.rfl hc7)) ?_
          refine Go.seq ?_
          refine Go.r0 c27 rfl rfl (sq z27 (oAsI rfl rfl) <| nl) ?_
          refine Unw.seq ?_
          refine Go.ret (Unw.ret ?_)
          cases h
          exact ⟨rfl, (fin_of rfl rF27 rfl rfl)⟩
      · rw [if_neg hc6] at h
        refine Go.condF rfl (byF iDec hc6) ?_
        refine Go.exit ?_
        refine Unw.seqx ?_
        refine Unw.nil ?_
        cases h
        exact ⟨rfl, rfl⟩
    · rintro ⟨e, st⟩ hp
      rcases o with u | r2
      · dsimp only at h
        obtain ⟨he, hst⟩ := hp
        obtain rfl : e = .exit 0 := he
        refine Unw.blkx ?_
        refine Unw.seq ?_
        refine Go.seq ?_
        refine Go.r1 c27 rfl rfl hst (sq z27 (oAsI rfl rfl) <| nl) ?_
        refine Unw.seq ?_
        refine Go.ret (Unw.ret ?_)
        cases h
        exact Fin_ret (fin_of rfl rF27 rfl rfl)
      · dsimp only at h
        obtain ⟨he, hfin⟩ := hp
        obtain rfl : e = .ret := he
        cases h
        exact Unw.ret (Fin_ret hfin)
theorem L_laws_markText {k_0 : Int} {r : ByteArray} (h : laws_markText k_0 = some r) : FL Try.prog cfg 40 [.im 2 false [.sc (.int .i64 k_0)]] = some ([(false, [.im 0 (.sc (.string r))])], []) := by
  unfold laws_markText at h
  refine FL_goS (A := [(0, .v false [.im 2 (.sc (.int .i64 k_0))])]) (B := [(0, none)]) (nt := 20) rfl rfl Try.func40 rfl rfl rfl rfl ?_
  refine Go.seq ?_
  refine Go.r0 c40 rfl rfl (sq z40 (oAsI rfl rfl) <| nl) ?_
  refine Unw.seq ?_
  refine Go.seq ?_
  refine Go.seq ?_
  refine Go.r0 c40 rfl rfl (sq z40 (oMv rfl rfl) <| sq z40 (oBi rfl rfl rfl rfl) <| nl) ?_
  refine Unw.seq ?_
  by_cases hc1 : k_0 ≤ 0
  · rw [if_pos hc1] at h
    refine Go.condT rfl (iDec.2 hc1) ?_
    refine Go.seq ?_
    refine Go.r0 c40 rfl rfl (sq z40 (oAsI rfl rfl) <| nl) ?_
    refine Unw.seq ?_
    refine Go.ret (Unw.ret ?_)
    cases h
    exact Fin_ret (fin_of rfl rF40 rfl rfl)
  · rw [if_neg hc1] at h
    refine Go.condF rfl (byF iDec hc1) ?_
    refine Go.skip ?_
    refine Unw.seq ?_
    refine Go.seq ?_
    refine Go.r0 c40 rfl rfl (sq z40 (oAsI rfl rfl) <| nl) ?_
    refine Unw.seq ?_
    refine Go.seq ?_
    refine Go.block ?_
    obtain ⟨o, hl, h⟩ := bs h
    refine Go.lp c40 rfl _ (fun (s : (Int × ByteArray)) => match s with | (k_0_l4, out_3_l4) => mk [(0, iv k_0_l4), (3, sv out_3_l4)] []) (fun (out_3_e0_4 : ByteArray) (p : Ex × St) => p.1 = .exit 0 ∧ p.2.norm ([3], []) = mk [(3, sv out_3_e0_4)] []) hl rfl ?_ ?_ ?_
    · intro o p hp e
      exact nomatch (hp.1.symm.trans e)
    · rintro ⟨k_0_l4, out_3_l4⟩ o h
      unfold laws_markText_l4 at h
      dsimp only at h
      refine Go.seq ?_
      refine Go.seq ?_
      refine Go.r0 c40 rfl rfl (sq z40 (oMv rfl rfl) <| sq z40 (oBi rfl rfl rfl rfl) <| nl) ?_
      refine Unw.seq ?_
      by_cases hc4 : k_0_l4 > 0
      · rw [if_pos hc4] at h
        refine Go.condT rfl (iDec.2 hc4) ?_
        refine Go.skip ?_
        refine Unw.seq ?_
        refine Go.block ?_
        refine Go.seq ?_
        obtain ⟨x9, hx9, h⟩ := bs h
        obtain ⟨x15, hx15, h⟩ := bs h
        refine Go.r0 c40 rfl rfl (sq z40 (oMv rfl rfl) <| sq z40 (oRem rfl hx9 rfl rfl) <| sq z40 (oBi rfl rfl rfl rfl) <| sq z40 (oCvI rfl uF3 uF5 rfl) <| sq z40 (oBS (es := List.map (eK .u8) ([(IntKind.wrap .u8 ((w64 (48 + x9))))] : List Int)) rfl sF69 rfl (ptC rfl (fxI fx0) rfl pt0) (flat0 rfl fun _ => rfl)) <| sq z40 (oCvB (l := ([(IntKind.wrap .u8 ((w64 (48 + x9))))] : List Int)) rfl uF69 uF5 uF9 rfl (el_own rfl rfl)) <| sq z40 (oMv rfl rfl) <| sq z40 (oCat rfl hx15 rfl rfl) <| sq z40 (oAsI rfl rfl) <| nl) ?_
        refine Unw.seq ?_
        obtain ⟨x17, hx17, h⟩ := bs h
        refine Go.r0 c40 rfl rfl (sq z40 (oMv rfl rfl) <| sq z40 (oQuo rfl hx17 rfl rfl) <| sq z40 (oAsI rfl rfl) <| nl) ?_
        refine Unw.blk ?_
        refine Unw.nil ?_
        cases h
        exact ⟨rfl, rfl⟩
      · rw [if_neg hc4] at h
        refine Go.condF rfl (byF iDec hc4) ?_
        refine Go.exit ?_
        refine Unw.seqx ?_
        refine Unw.nil ?_
        cases h
        exact ⟨rfl, rfl⟩
    · rintro ⟨e, st⟩ hp
      obtain ⟨out_3_e0_4, rfl⟩ : ∃ y, y = o := ⟨o, rfl⟩
      obtain ⟨he, hst⟩ := hp
      obtain rfl : e = .exit 0 := he
      refine Unw.blkx ?_
      refine Unw.seq ?_
      refine Go.seq ?_
      obtain ⟨x19, hx19, h⟩ := bs h
      refine Go.r1 c40 rfl rfl hst (sq z40 (oMv rfl rfl) <| sq z40 (oCat rfl hx19 rfl rfl) <| sq z40 (oAsI rfl rfl) <| nl) ?_
      refine Unw.seq ?_
      refine Go.ret (Unw.ret ?_)
      cases h
      exact Fin_ret (fin_of rfl rF40 rfl rfl)
theorem L_laws_markFindingS {a_0 : (List S_Finding)} {k_1 : Int} {r : (Int × (List S_Finding))} (h : laws_markFindingS a_0 k_1 = some r) : FL Try.prog cfg 28 [.ow 3 (List.map e_S_Finding a_0), .im 2 false [.sc (.int .i64 k_1)]] = some ([(false, [.im 0 (.sc (.int .i64 r.1))])], [.ow 3 (List.map e_S_Finding r.2)]) := by
  unfold laws_markFindingS at h
  refine FL_goS (A := [(0, .v false [.own 0 0 0]), (1, .v false [.im 2 (.sc (.int .i64 k_1))])]) (B := [(0, some ⟨0, 0, true, false, false, false, [⟨.sh, 0, 0, .row 3 (List.map e_S_Finding a_0)⟩]⟩), (1, none)]) (nt := 36) rfl rfl Try.func28 rfl rfl rfl rfl ?_
  refine Go.seq ?_
  refine Go.r0 c28 rfl rfl (sq z28 (oAsI rfl rfl) <| nl) ?_
  refine Unw.seq ?_
  refine Go.seq ?_
  refine Go.seq ?_
  refine Go.r0 c28 rfl rfl (sq z28 (oAsI rfl rfl) <| nl) ?_
  refine Unw.seq ?_
  refine Go.block ?_
  obtain ⟨o, hl, h⟩ := bs h
  refine Go.lp c28 rfl _ (fun (s : (Int × Int × (List S_Finding))) => match s with | (k_1_l2, i_5_l2, a_o0_l2) => mk [(0, .v false [.own 0 0 0]), (1, iv k_1_l2), (5, iv i_5_l2)] [(0, some ⟨0, 0, true, false, false, false, [⟨.sh, 0, 0, .row 3 (List.map e_S_Finding a_o0_l2)⟩]⟩)]) (fun (o : (Int × (List S_Finding))) (p : Ex × St) => match o with | (k_1_e0_2, a_o0_e0_2) => p.1 = .exit 0 ∧ p.2.norm ([1], [0]) = mk [(1, iv k_1_e0_2)] [(0, some ⟨0, 0, true, false, false, false, [⟨.sh, 0, 0, .row 3 (List.map e_S_Finding a_o0_e0_2)⟩]⟩)]) hl rfl ?_ ?_ ?_
  · intro o p hp e
    obtain ⟨k_1_e0_2, a_o0_e0_2⟩ := o
    exact nomatch (hp.1.symm.trans e)
  · rintro ⟨k_1_l2, i_5_l2, a_o0_l2⟩ o h
    unfold laws_markFindingS_l2 at h
    dsimp only at h
    refine Go.seq ?_
    refine Go.seq ?_
    refine Go.r0 c28 rfl rfl (sq z28 (oMv rfl rfl) <| sq z28 (oMv rfl rfl) <| sq z28 (oLnO rfl rfl uF40 rfl rfl rfl (fun e => nomatch e)) <| sq z28 (oBi rfl rfl rfl rfl) <| nl) ?_
    refine Unw.seq ?_
    by_cases hc3 : i_5_l2 < (a_o0_l2.length : Int)
    · rw [if_pos hc3] at h
      refine Go.condT rfl (iDec.2 hc3) ?_
      refine Go.skip ?_
      refine Unw.seq ?_
      refine Go.seq ?_
      refine Go.block ?_
      refine Go.seq ?_
      obtain ⟨x15, hx15, h⟩ := bs h
      refine Go.r0 c28 rfl rfl (sq z28 (oMv rfl rfl) <| sq z28 (oMv rfl rfl) <| sq z28 (oMv rfl rfl) <| sq z28 (oIAO rfl hx15 sF40 rfl rfl rfl rfl) <| sq z28 (oFA (r' := .mpe 0 0 0 _ 0) rfl fF33_0 rfl rfl) <| sq z28 (oStE (v' := (⟨k_1_l2, x15.Who, x15.What⟩ : S_Finding)) tF2 rfl rfl rfl (fxI fx0) rfl rfl (rd_get hx15) rfl) <| nl) ?_
      refine Unw.seq ?_
      refine Go.seq ?_
      refine Go.r1 c28 rfl rfl (st1 := mk [(0, .v false [.own 0 0 0]), (1, iv k_1_l2), (5, iv i_5_l2)] [(0, some ⟨0, 0, true, false, false, false, [⟨.sh, 0, 0, .row 3 (List.map e_S_Finding (a_o0_l2.set i_5_l2.toNat (⟨k_1_l2, x15.Who, x15.What⟩ : S_Finding)))⟩]⟩)]) rfl (sq z28 (oMv rfl rfl) <| sq z28 (oBi rfl rfl rfl rfl) <| sq z28 (oAsI rfl rfl) <| nl) ?_
      refine Unw.seq ?_
      refine Go.seq ?_
      obtain ⟨x22, hx22, h⟩ := bs h
      obtain ⟨x23, hx23, h⟩ := bs h
      refine Go.r0 c28 rfl rfl (sq z28 (oMv rfl rfl) <| sq z28 (oMv rfl rfl) <| sq z28 (oMv rfl rfl) <| sq z28 (oCa (xs := [.v false [.im 0 _]]) (vs := [(false, [.im 0 _])]) (v := .v false [.im 0 _]) (L_laws_markText hx22) rfl rfl kF40_3 rfl (ppC rfl pp0) rfl rfl pb0 rfl rfl rfl) <| sq z28 (oIAO rfl hx23 sF40 rfl rfl rfl rfl) <| sq z28 (oFA (r' := .mpe 0 0 0 _ 1) rfl fF33_1 rfl rfl) <| sq z28 (oStE (v' := (⟨x23.Kind, x22, x23.What⟩ : S_Finding)) tF9 rfl rfl rfl (fxI fx0) rfl rfl (rd_get hx23) rfl) <| nl) ?_
      refine Unw.seq ?_
      refine Go.seq ?_
      refine Go.r1 c28 rfl rfl (st1 := mk [(0, .v false [.own 0 0 0]), (1, iv (w64 (k_1_l2 + 1))), (5, iv i_5_l2)] [(0, some ⟨0, 0, true, false, false, false, [⟨.sh, 0, 0, .row 3 (List.map e_S_Finding ((a_o0_l2.set i_5_l2.toNat (⟨k_1_l2, x15.Who, x15.What⟩ : S_Finding)).set i_5_l2.toNat (⟨x23.Kind, x22, x23.What⟩ : S_Finding)))⟩]⟩)]) rfl (sq z28 (oMv rfl rfl) <| sq z28 (oBi rfl rfl rfl rfl) <| sq z28 (oAsI rfl rfl) <| nl) ?_
      refine Unw.seq ?_
      refine Go.seq ?_
      obtain ⟨x30, hx30, h⟩ := bs h
      obtain ⟨x31, hx31, h⟩ := bs h
      refine Go.r0 c28 rfl rfl (sq z28 (oMv rfl rfl) <| sq z28 (oMv rfl rfl) <| sq z28 (oMv rfl rfl) <| sq z28 (oCa (xs := [.v false [.im 0 _]]) (vs := [(false, [.im 0 _])]) (v := .v false [.im 0 _]) (L_laws_markText hx30) rfl rfl kF40_3 rfl (ppC rfl pp0) rfl rfl pb0 rfl rfl rfl) <| sq z28 (oIAO rfl hx31 sF40 rfl rfl rfl rfl) <| sq z28 (oFA (r' := .mpe 0 0 0 _ 2) rfl fF33_2 rfl rfl) <| sq z28 (oStE (v' := (⟨x31.Kind, x31.Who, x30⟩ : S_Finding)) tF9 rfl rfl rfl (fxI fx0) rfl rfl (rd_get hx31) rfl) <| nl) ?_
      refine Unw.seq ?_
      refine Go.r1 c28 rfl rfl (st1 := mk [(0, .v false [.own 0 0 0]), (1, iv (w64 ((w64 (k_1_l2 + 1)) + 1))), (5, iv i_5_l2)] [(0, some ⟨0, 0, true, false, false, false, [⟨.sh, 0, 0, .row 3 (List.map e_S_Finding (((a_o0_l2.set i_5_l2.toNat (⟨k_1_l2, x15.Who, x15.What⟩ : S_Finding)).set i_5_l2.toNat (⟨x23.Kind, x22, x23.What⟩ : S_Finding)).set i_5_l2.toNat (⟨x31.Kind, x31.Who, x30⟩ : S_Finding)))⟩]⟩)]) rfl (sq z28 (oMv rfl rfl) <| sq z28 (oBi rfl rfl rfl rfl) <| sq z28 (oAsI rfl rfl) <| nl) ?_
      refine Unw.blk ?_
      refine Unw.seq ?_
      refine Go.r0 c28 rfl rfl (sq z28 (oMv rfl rfl) <| sq z28 (oBi rfl rfl rfl rfl) <| sq z28 (oAsI rfl rfl) <| nl) ?_
      refine Unw.nil ?_
      cases h
      exact ⟨rfl, rfl⟩
    · rw [if_neg hc3] at h
      refine Go.condF rfl (byF iDec hc3) ?_
      refine Go.exit ?_
      refine Unw.seqx ?_
      refine Unw.nil ?_
      cases h
      exact ⟨rfl, rfl⟩
  · rintro ⟨e, st⟩ hp
    obtain ⟨k_1_e0_2, a_o0_e0_2⟩ := o
    dsimp only at h
    obtain ⟨he, hst⟩ := hp
    obtain rfl : e = .exit 0 := he
    refine Unw.blkx ?_
    refine Unw.seq ?_
    refine Go.seq ?_
    refine Go.r1 c28 rfl rfl hst (sq z28 (oMv rfl rfl) <| sq z28 (oAsI rfl rfl) <| nl) ?_
    refine Unw.seq ?_
    refine Go.ret (Unw.ret ?_)
    cases h
    exact Fin_ret (fin_of rfl rF28 rfl rfl)
theorem L_laws_markInt64S {a_0 : (List Int)} {k_1 : Int} {r : (Int × (List Int))} (h : laws_markInt64S a_0 k_1 = some r) : FL Try.prog cfg 29 [.ow 1 (List.map eI a_0), .im 2 false [.sc (.int .i64 k_1)]] = some ([(false, [.im 0 (.sc (.int .i64 r.1))])], [.ow 1 (List.map eI r.2)]) := by
  unfold laws_markInt64S at h
  refine FL_goS (A := [(0, .v false [.own 0 0 0]), (1, .v false [.im 2 (.sc (.int .i64 k_1))])]) (B := [(0, some ⟨0, 0, true, false, false, false, [⟨.sh, 0, 0, .row 1 (List.map eI a_0)⟩]⟩), (1, none)]) (nt := 19) rfl rfl Try.func29 rfl rfl rfl rfl ?_
  refine Go.seq ?_
  refine Go.r0 c29 rfl rfl (sq z29 (oAsI rfl rfl) <| nl) ?_
  refine Unw.seq ?_
  refine Go.seq ?_
  refine Go.seq ?_
  refine Go.r0 c29 rfl rfl (sq z29 (oAsI rfl rfl) <| nl) ?_
  refine Unw.seq ?_
  refine Go.block ?_
  obtain ⟨o, hl, h⟩ := bs h
  refine Go.lp c29 rfl _ (fun (s : (Int × Int × (List Int))) => match s with | (k_1_l2, i_5_l2, a_o0_l2) => mk [(0, .v false [.own 0 0 0]), (1, iv k_1_l2), (5, iv i_5_l2)] [(0, some ⟨0, 0, true, false, false, false, [⟨.sh, 0, 0, .row 1 (List.map eI a_o0_l2)⟩]⟩)]) (fun (o : (Int × (List Int))) (p : Ex × St) => match o with | (k_1_e0_2, a_o0_e0_2) => p.1 = .exit 0 ∧ p.2.norm ([1], [0]) = mk [(1, iv k_1_e0_2)] [(0, some ⟨0, 0, true, false, false, false, [⟨.sh, 0, 0, .row 1 (List.map eI a_o0_e0_2)⟩]⟩)]) hl rfl ?_ ?_ ?_
  · intro o p hp e
    obtain ⟨k_1_e0_2, a_o0_e0_2⟩ := o
    exact nomatch (hp.1.symm.trans e)
  · rintro ⟨k_1_l2, i_5_l2, a_o0_l2⟩ o h
    unfold laws_markInt64S_l2 at h
    dsimp only at h
    refine Go.seq ?_
    refine Go.seq ?_
    refine Go.r0 c29 rfl rfl (sq z29 (oMv rfl rfl) <| sq z29 (oMv rfl rfl) <| sq z29 (oLnO rfl rfl uF38 rfl rfl rfl (fun e => nomatch e)) <| sq z29 (oBi rfl rfl rfl rfl) <| nl) ?_
    refine Unw.seq ?_
    by_cases hc3 : i_5_l2 < (a_o0_l2.length : Int)
    · rw [if_pos hc3] at h
      refine Go.condT rfl (iDec.2 hc3) ?_
      refine Go.skip ?_
      refine Unw.seq ?_
      refine Go.seq ?_
      refine Go.block ?_
      refine Go.seq ?_
      obtain ⟨x15, hx15, h⟩ := bs h
      refine Go.r0 c29 rfl rfl (sq z29 (oMv rfl rfl) <| sq z29 (oMv rfl rfl) <| sq z29 (oMv rfl rfl) <| sq z29 (oIAO rfl hx15 sF38 rfl rfl rfl rfl) <| sq z29 (oStE (v' := k_1_l2) tF2 rfl rfl rfl (fxI fx0) rfl rfl (rd_get hx15) rfl) <| nl) ?_
      refine Unw.seq ?_
      refine Go.r1 c29 rfl rfl (st1 := mk [(0, .v false [.own 0 0 0]), (1, iv k_1_l2), (5, iv i_5_l2)] [(0, some ⟨0, 0, true, false, false, false, [⟨.sh, 0, 0, .row 1 (List.map eI (a_o0_l2.set i_5_l2.toNat k_1_l2))⟩]⟩)]) rfl (sq z29 (oMv rfl rfl) <| sq z29 (oBi rfl rfl rfl rfl) <| sq z29 (oAsI rfl rfl) <| nl) ?_
      refine Unw.blk ?_
      refine Unw.seq ?_
      refine Go.r0 c29 rfl rfl (sq z29 (oMv rfl rfl) <| sq z29 (oBi rfl rfl rfl rfl) <| sq z29 (oAsI rfl rfl) <| nl) ?_
      refine Unw.nil ?_
      cases h
      exact ⟨rfl, rfl⟩
    · rw [if_neg hc3] at h
      refine Go.condF rfl (byF iDec hc3) ?_
      refine Go.exit ?_
      refine Unw.seqx ?_
      refine Unw.nil ?_
      cases h
      exact ⟨rfl, rfl⟩
  · rintro ⟨e, st⟩ hp
    obtain ⟨k_1_e0_2, a_o0_e0_2⟩ := o
    dsimp only at h
    obtain ⟨he, hst⟩ := hp
    obtain rfl : e = .exit 0 := he
    refine Unw.blkx ?_
    refine Unw.seq ?_
    refine Go.seq ?_
    refine Go.r1 c29 rfl rfl hst (sq z29 (oMv rfl rfl) <| sq z29 (oAsI rfl rfl) <| nl) ?_
    refine Unw.seq ?_
    refine Go.ret (Unw.ret ?_)
    cases h
    exact Fin_ret (fin_of rfl rF29 rfl rfl)
theorem L_laws_heldInt64S {a_0 : (List Int)} {k_1 : Int} {r : Int} (h : laws_heldInt64S a_0 k_1 = some r) : FL Try.prog cfg 30 [.im 2 false [.row 1 (List.map eI a_0)], .im 2 false [.sc (.int .i64 k_1)]] = some ([(false, [.im 0 (.sc (.int .i64 r))])], []) := by
  unfold laws_heldInt64S at h
  refine FL_goS (A := [(0, .v false [.im 2 (.row 1 (List.map eI a_0))]), (1, .v false [.im 2 (.sc (.int .i64 k_1))])]) (B := [(0, none), (1, none)]) (nt := 21) rfl rfl Try.func30 rfl rfl rfl rfl ?_
  refine Go.seq ?_
  refine Go.r0 c30 rfl rfl (sq z30 (oAsI rfl rfl) <| nl) ?_
  refine Unw.seq ?_
  refine Go.seq ?_
  refine Go.seq ?_
  refine Go.r0 c30 rfl rfl (sq z30 (oAsI rfl rfl) <| nl) ?_
  refine Unw.seq ?_
  refine Go.block ?_
  obtain ⟨o, hl, h⟩ := bs h
  refine Go.lp c30 rfl _ (fun (s : (Int × Int)) => match s with | (k_1_l2, i_5_l2) => mk [(0, .v false [.im 2 (.row 1 (List.map eI a_0))]), (1, iv k_1_l2), (5, iv i_5_l2)] []) (fun (o : (Int ⊕ Int)) (p : Ex × St) => match o with | (.inl k_1_e0_2) => p.1 = .exit 0 ∧ p.2.norm ([1], []) = mk [(1, iv k_1_e0_2)] [] | (.inr r2) => p.1 = .ret ∧ fin Try.prog cfg 30 Try.f30 [.im 2 false [.row 1 (List.map eI a_0)], .im 2 false [.sc (.int .i64 k_1)]] p.2 = some ([(false, [.im 0 (.sc (.int .i64 r2))])], [])) hl rfl ?_ ?_ ?_
  · intro o p hp e
    rcases o with k_1_e0_2 | r2 <;> exact nomatch (hp.1.symm.trans e)
  · rintro ⟨k_1_l2, i_5_l2⟩ o h
    unfold laws_heldInt64S_l2 at h
    dsimp only at h
    refine Go.seq ?_
    refine Go.seq ?_
    refine Go.r0 c30 rfl rfl (sq z30 (oMv rfl rfl) <| sq z30 (oMv rfl rfl) <| sq z30 (oLnI rfl rfl uF38 rfl) <| sq z30 (oBi rfl rfl rfl rfl) <| nl) ?_
    refine Unw.seq ?_
    by_cases hc5 : i_5_l2 < (a_0.length : Int)
    · rw [if_pos hc5] at h
      refine Go.condT rfl (iDec.2 hc5) ?_
      refine Go.skip ?_
      refine Unw.seq ?_
      refine Go.seq ?_
      refine Go.block ?_
      refine Go.seq ?_
      refine Go.seq ?_
      obtain ⟨x14, hx14, h⟩ := bs h
      refine Go.r0 c30 rfl rfl (sq z30 (oMv rfl rfl) <| sq z30 (oMv rfl rfl) <| sq z30 (oIAI rfl hx14 sF38 rfl rfl) <| sq z30 (oLd (cs := [.im 2 _]) rfl tF2 rfl rfl) <| sq z30 (oMv rfl rfl) <| sq z30 (oBi rfl rfl rfl rfl) <| nl) ?_
      refine Unw.seq ?_
      by_cases hc6 : x14 ≠ k_1_l2
      · rw [if_pos hc6] at h
        refine Go.condT rfl (iNe.2 hc6) ?_
        refine Go.seq ?_
        refine Go.r0 c30 rfl rfl (sq z30 (oAsI rfl rfl) <| nl) ?_
        refine Unw.seq ?_
        refine Go.ret (Unw.ret ?_)
        cases h
        exact ⟨rfl, (fin_of rfl rF30 rfl rfl)⟩
      · rw [if_neg hc6] at h
        refine Go.condF rfl (byF iNe hc6) ?_
        refine Go.skip ?_
        refine Unw.seq ?_
        refine Go.r0 c30 rfl rfl (sq z30 (oMv rfl rfl) <| sq z30 (oBi rfl rfl rfl rfl) <| sq z30 (oAsI rfl rfl) <| nl) ?_
        refine Unw.blk ?_
        refine Unw.seq ?_
        refine Go.r0 c30 rfl rfl (sq z30 (oMv rfl rfl) <| sq z30 (oBi rfl rfl rfl rfl) <| sq z30 (oAsI rfl rfl) <| nl) ?_
        refine Unw.nil ?_
        cases h
        exact ⟨rfl, rfl⟩
    · rw [if_neg hc5] at h
      refine Go.condF rfl (byF iDec hc5) ?_
      refine Go.exit ?_
      refine Unw.seqx ?_
      refine Unw.nil ?_
      cases h
      exact ⟨rfl, rfl⟩
  · rintro ⟨e, st⟩ hp
    rcases o with k_1_e0_2 | r2
    · dsimp only at h
      obtain ⟨he, hst⟩ := hp
      obtain rfl : e = .exit 0 := he
      refine Unw.blkx ?_
      refine Unw.seq ?_
      refine Go.seq ?_
      refine Go.r1 c30 rfl rfl hst (sq z30 (oMv rfl rfl) <| sq z30 (oAsI rfl rfl) <| nl) ?_
      refine Unw.seq ?_
      refine Go.ret (Unw.ret ?_)
      cases h
      exact Fin_ret (fin_of rfl rF30 rfl rfl)
    · dsimp only at h
      obtain ⟨he, hfin⟩ := hp
      obtain rfl : e = .ret := he
      cases h
      exact Unw.ret (Fin_ret hfin)
theorem L_laws_FnExactCountFindings {aList_0 : (List S_Finding)} {r : Bool} (h : laws_FnExactCountFindings aList_0 = some r) : FL Try.prog cfg 7 [.im 2 false [.row 3 (List.map e_S_Finding aList_0)]] = some ([(false, [.im 0 (.sc (.bool r))])], []) := by
  unfold laws_FnExactCountFindings at h
  refine FL_goS (A := [(0, .v false [.im 2 (.row 3 (List.map e_S_Finding aList_0))])]) (B := [(0, none)]) (nt := 69) rfl rfl Try.func7 rfl rfl rfl rfl ?_
  refine Go.seq ?_
  refine Go.r0 c7 rfl rfl (sq z7 (oAsI rfl rfl) <| nl) ?_
  refine Unw.seq ?_
  refine Go.seq ?_
  refine Go.r0 c7 rfl rfl (sq z7 (oAsI rfl rfl) <| nl) ?_
  refine Unw.seq ?_
  refine Go.seq ?_
  obtain ⟨x13, hx13, h⟩ := bs h
  refine Go.r0 c7 rfl rfl (sq z7 (oMv rfl rfl) <| sq z7 (oMv rfl rfl) <| sq z7 (oCa (xs := [.v false [.im 2 _], .v false [.im 0 _]]) (vs := [(false, [.im 0 _])]) (v := .v false [.im 0 _]) (L_laws_szFindingS hx13) rfl rfl kF22_36_3 rfl (ppC rfl (ppC rfl pp0)) rfl rfl pb0 rfl rfl rfl) <| sq z7 (oAsI rfl rfl) <| nl) ?_
  refine Unw.seq ?_
  refine Go.seq ?_
  refine Go.seq ?_
  refine Go.r0 c7 rfl rfl (sq z7 (oMv rfl rfl) <| sq z7 (oBi rfl rfl rfl rfl) <| nl) ?_
  refine Unw.seq ?_
  by_cases hc1 : x13 < 0
  · rw [if_pos hc1] at h
    refine Go.condT rfl (iDec.2 hc1) ?_
    refine Go.seq ?_
    refine Go.r0 c7 rfl rfl (sq z7 (oAsI rfl rfl) <| nl) ?_
    refine Unw.seq ?_
    refine Go.ret (Unw.ret ?_)
    cases h
    exact Fin_ret (fin_of rfl rF7 rfl rfl)
  · rw [if_neg hc1] at h
    refine Go.condF rfl (byF iDec hc1) ?_
    refine Go.skip ?_
    refine Unw.seq ?_
    refine Go.seq ?_
    obtain ⟨x17, hx17, h⟩ := bs h
    obtain ⟨x18, hx18, h⟩ := bs h
    refine Go.r0 c7 rfl rfl (sq z7 (oMv rfl rfl) <| sq z7 (oCr (xs := [.v false [.im 2 _]]) (vs := [(false, [.own 17 0 0])]) (v := .v false [.own 17 0 0]) (c := ⟨.sh, 0, _⟩) (cs := []) (L_laws_toFindingS hx17) rfl rfl kF24_36 rfl (ppC rfl pp0) rfl rfl pb0 rfl rfl rfl) <| sq z7 (oCr (xs := [.v false [.own 17 0 0]]) (vs := [(false, [.own 18 0 0])]) (v := .v false [.own 18 0 0]) (c := ⟨.sh, 0, _⟩) (cs := []) (L_spec_CountFindings hx18) rfl rfl kF23_40 rfl (ppC rfl pp0) rfl rfl pb0 rfl rfl rfl) <| sq z7 (oAsO rfl rfl rfl rfl rfl) <| nl) ?_
    refine Unw.seq ?_
    refine Go.seq ?_
    obtain ⟨x20, hx20, h⟩ := bs h
    refine Go.r0 c7 rfl rfl (sq z7 (oMv rfl rfl) <| sq z7 (oCr (xs := [.v false [.im 2 _]]) (vs := [(false, [.own 20 0 0])]) (v := .v false [.own 20 0 0]) (c := ⟨.sh, 0, _⟩) (cs := []) (L_laws_toFindingS hx20) rfl rfl kF24_36 rfl (ppC rfl pp0) rfl rfl pb0 rfl rfl rfl) <| sq z7 (oAsO rfl rfl rfl rfl rfl) <| nl) ?_
    refine Unw.seq ?_
    refine Go.seq ?_
    obtain ⟨x22, hx22, h⟩ := bs h
    refine Go.r0 c7 rfl rfl (sq z7 (oMv rfl rfl) <| sq z7 (oCr (xs := [.v false [.own 5 0 0]]) (vs := [(false, [.own 22 0 0])]) (v := .v false [.own 22 0 0]) (c := ⟨.sh, 0, _⟩) (cs := []) (L_impl_CountFindings hx22) rfl rfl kF25_40 rfl (ppC rfl pp0) rfl rfl pb0 rfl rfl rfl) <| sq z7 (oAsO rfl rfl rfl rfl rfl) <| nl) ?_
    refine Unw.seq ?_
    refine Go.seq ?_
    refine Go.seq ?_
    obtain ⟨x25, hx25, h⟩ := bs h
    refine Go.r0 c7 rfl rfl (sq z7 (oMv rfl rfl) <| sq z7 (oMv rfl rfl) <| sq z7 (oCa (xs := [.v false [.own 6 0 0], .v false [.own 4 0 0]]) (vs := [(false, [.im 0 _])]) (v := .v false [.im 0 _]) (L_laws_eqInt64S hx25) rfl rfl kF26_38_38 rfl (ppC rfl (ppC rfl pp0)) rfl rfl pb0 rfl rfl rfl) <| sq z7 (oUn rfl rfl rfl) <| nl) ?_
    refine Unw.seq ?_
    by_cases hc2 : x25 = true
    · rw [if_pos hc2] at h
      refine Go.condF rfl (nF (Iff.rfl.2 hc2)) ?_
      refine Go.skip ?_
      refine Unw.seq ?_
      refine Go.seq ?_
      refine Go.seq ?_
      obtain ⟨x29, hx29, h⟩ := bs h
      obtain ⟨x30, hx30, h⟩ := bs h
      refine Go.r0 c7 rfl rfl (sq z7 (oMv rfl rfl) <| sq z7 (oMv rfl rfl) <| sq z7 (oCr (xs := [.v false [.im 2 _]]) (vs := [(false, [.own 29 0 0])]) (v := .v false [.own 29 0 0]) (c := ⟨.sh, 0, _⟩) (cs := []) (L_laws_toFindingS hx29) rfl rfl kF24_36 rfl (ppC rfl pp0) rfl rfl pb0 rfl rfl rfl) <| sq z7 (oCa (xs := [.v false [.own 5 0 0], .v false [.own 29 0 0]]) (vs := [(false, [.im 0 _])]) (v := .v false [.im 0 _]) (L_laws_eqFindingS hx30) rfl rfl kF27_40_40 rfl (ppC rfl (ppC rfl pp0)) rfl rfl pb0 rfl rfl rfl) <| sq z7 (oUn rfl rfl rfl) <| nl) ?_
      refine Unw.seq ?_
      by_cases hc3 : x30 = true
      · rw [if_pos hc3] at h
        refine Go.condF rfl (nF (Iff.rfl.2 hc3)) ?_
        refine Go.skip ?_
        refine Unw.seq ?_
        refine Go.seq ?_
        refine Go.r0 c7 rfl rfl (sq z7 (oAsI rfl rfl) <| nl) ?_
        refine Unw.seq ?_
        refine Go.seq ?_
        obtain ⟨x34, hx34, h⟩ := bs h
        refine Go.r0 c7 rfl rfl (sq z7 (oMv rfl rfl) <| sq z7 (oMv rfl rfl) <| sq z7 (oCa (xs := [.v false [.own 5 0 0], .v false [.im 0 _]]) (vs := [(false, [.im 0 _])]) (v := .v false [.im 0 _]) (L_laws_markFindingS hx34) rfl rfl kF28_40_3 rfl (ppC rfl (ppC rfl pp0)) rfl rfl (pbO rfl rfl rfl rfl pb0) rfl rfl rfl) <| sq z7 (oAsI rfl rfl) <| nl) ?_
        refine Unw.seq ?_
        refine Go.seq ?_
        refine Go.seq ?_
        obtain ⟨t_42_m14, hm11, h⟩ := bs h
        refine Go.rX c7 rfl rfl (st1 := mk [(0, .v false [.im 2 (.row 3 (List.map e_S_Finding aList_0))]), (4, .v false [.own 4 0 0]), (6, .v false [.own 6 0 0]), (7, iv x34.1)] [(4, some ⟨0, 0, false, false, false, false, [⟨.sh, 0, 0, .row 1 (List.map eI x18)⟩]⟩), (6, some ⟨0, 0, false, false, false, false, [⟨.sh, 0, 0, .row 1 (List.map eI x22)⟩]⟩)]) rfl (mk [(0, .v false [.im 2 (.row 3 (List.map e_S_Finding aList_0))]), (4, .v false [.own 4 0 0]), (6, .v false [.own 6 0 0]), (42, bv t_42_m14)] [(4, some ⟨0, 0, false, false, false, false, [⟨.sh, 0, 0, .row 1 (List.map eI x18)⟩]⟩), (6, some ⟨0, 0, false, false, false, false, [⟨.sh, 0, 0, .row 1 (List.map eI x22)⟩]⟩)]) ?_ ?_
        · by_cases hc4 : x34.1 < 0
          · rw [if_pos hc4] at hm11
            cases hm11
            exact ⟨_, sq z7 (oMv rfl rfl) <| sq z7 (oBi rfl rfl rfl rfl) <| sq z7 (oMv rfl rfl) <| sgF rfl rfl (iDec.2 hc4) rfl <| sgF rfl rfl (iDec.2 hc4) rfl <| sgF rfl rfl (iDec.2 hc4) rfl <| sgF rfl rfl (iDec.2 hc4) rfl <| sq z7 (oPkT rfl rfl (iDec.2 hc4) rfl) <| nl, rfl⟩
          · rw [if_neg hc4] at hm11
            obtain ⟨x40, hx40, hm11⟩ := bs hm11
            cases hm11
            exact ⟨_, sq z7 (oMv rfl rfl) <| sq z7 (oBi rfl rfl rfl rfl) <| sq z7 (oMv rfl rfl) <| sgT z7 rfl rfl (byF iDec hc4) (oMv rfl rfl) <| sgT z7 rfl rfl (byF iDec hc4) (oMv rfl rfl) <| sgT z7 rfl rfl (byF iDec hc4) (oCa (xs := [.v false [.own 6 0 0], .v false [.own 4 0 0]]) (vs := [(false, [.im 0 _])]) (v := .v false [.im 0 _]) (L_laws_eqInt64S hx40) rfl rfl kF26_38_38 rfl (ppC rfl (ppC rfl pp0)) rfl rfl pb0 rfl rfl rfl) <| sgT z7 rfl rfl (byF iDec hc4) (oUn rfl rfl rfl) <| sq z7 (oPkF rfl rfl (byF iDec hc4) rfl) <| nl, rfl⟩
        · refine Unw.seq ?_
          by_cases hc5 : t_42_m14 = true
          · rw [if_pos hc5] at h
            refine Go.condT rfl (Iff.rfl.2 hc5) ?_
            refine Go.seq ?_
            refine Go.r0 c7 rfl rfl (sq z7 (oAsI rfl rfl) <| nl) ?_
            refine Unw.seq ?_
            refine Go.ret (Unw.ret ?_)
            cases h
            exact Fin_ret (fin_of rfl rF7 rfl rfl)
          · rw [if_neg hc5] at h
            refine Go.condF rfl (byF Iff.rfl hc5) ?_
            refine Go.skip ?_
            refine Unw.seq ?_
            refine Go.seq ?_
            refine Go.r0 c7 rfl rfl (sq z7 (oAsI rfl rfl) <| nl) ?_
            refine Unw.seq ?_
            refine Go.seq ?_
            obtain ⟨x45, hx45, h⟩ := bs h
            refine Go.r0 c7 rfl rfl (sq z7 (oMv rfl rfl) <| sq z7 (oMv rfl rfl) <| sq z7 (oCa (xs := [.v false [.own 6 0 0], .v false [.im 0 _]]) (vs := [(false, [.im 0 _])]) (v := .v false [.im 0 _]) (L_laws_markInt64S hx45) rfl rfl kF29_38_3 rfl (ppC rfl (ppC rfl pp0)) rfl rfl (pbO rfl rfl rfl rfl pb0) rfl rfl rfl) <| sq z7 (oAsI rfl rfl) <| nl) ?_
            refine Unw.seq ?_
            refine Go.seq ?_
            refine Go.r1 c7 rfl rfl (st1 := mk [(0, .v false [.im 2 (.row 3 (List.map e_S_Finding aList_0))]), (4, .v false [.own 4 0 0]), (6, .v false [.own 6 0 0]), (8, iv x45.1)] [(4, some ⟨0, 0, false, false, false, false, [⟨.sh, 0, 0, .row 1 (List.map eI x18)⟩]⟩), (6, some ⟨0, 0, false, false, false, false, [⟨.sh, 0, 0, .row 1 (List.map eI x45.2)⟩]⟩)]) rfl (sq z7 (oAsI rfl rfl) <| nl) ?_
            refine Unw.seq ?_
            refine Go.seq ?_
            obtain ⟨x48, hx48, h⟩ := bs h
            refine Go.r0 c7 rfl rfl (sq z7 (oMv rfl rfl) <| sq z7 (oMv rfl rfl) <| sq z7 (oCa (xs := [.v false [.own 6 0 0], .v false [.im 0 _]]) (vs := [(false, [.im 0 _])]) (v := .v false [.im 0 _]) (L_laws_heldInt64S hx48) rfl rfl kF30_38_3 rfl (ppC rfl (ppC rfl pp0)) rfl rfl pb0 rfl rfl rfl) <| sq z7 (oAsI rfl rfl) <| nl) ?_
            refine Unw.seq ?_
            refine Go.seq ?_
            refine Go.seq ?_
            refine Go.r0 c7 rfl rfl (sq z7 (oMv rfl rfl) <| sq z7 (oBi rfl rfl rfl rfl) <| nl) ?_
            refine Unw.seq ?_
            by_cases hc6 : x48 < 0
            · rw [if_pos hc6] at h
              refine Go.condT rfl (iDec.2 hc6) ?_
              refine Go.seq ?_
              refine Go.r0 c7 rfl rfl (sq z7 (oAsI rfl rfl) <| nl) ?_
              refine Unw.seq ?_
              refine Go.ret (Unw.ret ?_)
              cases h
              exact Fin_ret (fin_of rfl rF7 rfl rfl)
            · rw [if_neg hc6] at h
              refine Go.condF rfl (byF iDec hc6) ?_
              refine Go.skip ?_
              refine Unw.seq ?_
              refine Go.seq ?_
              refine Go.seq ?_
              refine Go.r0 c7 rfl rfl (sq z7 (oMv rfl rfl) <| sq z7 (oMv rfl rfl) <| sq z7 (oBi rfl rfl rfl rfl) <| nl) ?_
              refine Unw.seq ?_
              by_cases hc7 : x48 ≠ x45.1
              · rw [if_pos hc7] at h
                refine Go.condT rfl (iNe.2 hc7) ?_
                refine Go.seq ?_
                refine Go.r0 c7 rfl rfl (sq z7 (oAsI rfl rfl) <| nl) ?_
                refine Unw.seq ?_
                refine Go.ret (Unw.ret ?_)
                cases h
                exact Fin_ret (fin_of rfl rF7 rfl rfl)
              · rw [if_neg hc7] at h
                refine Go.condF rfl (byF iNe hc7) ?_
                refine Go.skip ?_
                refine Unw.seq ?_
                refine Go.seq ?_
                obtain ⟨x55, hx55, h⟩ := bs h
                obtain ⟨x56, hx56, h⟩ := bs h
                refine Go.r0 c7 rfl rfl (sq z7 (oMv rfl rfl) <| sq z7 (oCr (xs := [.v false [.im 2 _]]) (vs := [(false, [.own 55 0 0])]) (v := .v false [.own 55 0 0]) (c := ⟨.sh, 0, _⟩) (cs := []) (L_laws_toFindingS hx55) rfl rfl kF24_36 rfl (ppC rfl pp0) rfl rfl pb0 rfl rfl rfl) <| sq z7 (oCr (xs := [.v false [.own 55 0 0]]) (vs := [(false, [.own 56 0 0])]) (v := .v false [.own 56 0 0]) (c := ⟨.sh, 0, _⟩) (cs := []) (L_impl_CountFindings hx56) rfl rfl kF25_40 rfl (ppC rfl pp0) rfl rfl pb0 rfl rfl rfl) <| sq z7 (oAsO rfl rfl rfl rfl rfl) <| nl) ?_
                refine Unw.seq ?_
                refine Go.seq ?_
                refine Go.seq ?_
                obtain ⟨x59, hx59, h⟩ := bs h
                refine Go.r0 c7 rfl rfl (sq z7 (oMv rfl rfl) <| sq z7 (oMv rfl rfl) <| sq z7 (oCa (xs := [.v false [.own 10 0 0], .v false [.own 4 0 0]]) (vs := [(false, [.im 0 _])]) (v := .v false [.im 0 _]) (L_laws_eqInt64S hx59) rfl rfl kF26_38_38 rfl (ppC rfl (ppC rfl pp0)) rfl rfl pb0 rfl rfl rfl) <| sq z7 (oUn rfl rfl rfl) <| nl) ?_
                refine Unw.seq ?_
                by_cases hc8 : x59 = true
                · rw [if_pos hc8] at h
                  refine Go.condF rfl (nF (Iff.rfl.2 hc8)) ?_
                  refine Go.skip ?_
                  refine Unw.seq ?_
                  refine Go.seq ?_
                  refine Go.r0 c7 rfl rfl (sq z7 (oAsI rfl rfl) <| nl) ?_
                  refine Unw.seq ?_
                  refine Go.seq ?_
                  obtain ⟨x63, hx63, h⟩ := bs h
                  refine Go.r0 c7 rfl rfl (sq z7 (oMv rfl rfl) <| sq z7 (oMv rfl rfl) <| sq z7 (oCa (xs := [.v false [.own 6 0 0], .v false [.im 0 _]]) (vs := [(false, [.im 0 _])]) (v := .v false [.im 0 _]) (L_laws_heldInt64S hx63) rfl rfl kF30_38_3 rfl (ppC rfl (ppC rfl pp0)) rfl rfl pb0 rfl rfl rfl) <| sq z7 (oAsI rfl rfl) <| nl) ?_
                  refine Unw.seq ?_
                  refine Go.seq ?_
                  refine Go.seq ?_
                  refine Go.r0 c7 rfl rfl (sq z7 (oMv rfl rfl) <| sq z7 (oBi rfl rfl rfl rfl) <| nl) ?_
                  refine Unw.seq ?_
                  by_cases hc9 : x63 < 0
                  · rw [if_pos hc9] at h
                    refine Go.condT rfl (iDec.2 hc9) ?_
                    refine Go.seq ?_
                    refine Go.r0 c7 rfl rfl (sq z7 (oAsI rfl rfl) <| nl) ?_
                    refine Unw.seq ?_
                    refine Go.ret (Unw.ret ?_)
                    cases h
                    exact Fin_ret (fin_of rfl rF7 rfl rfl)
                  · rw [if_neg hc9] at h
                    refine Go.condF rfl (byF iDec hc9) ?_
                    refine Go.skip ?_
                    refine Unw.seq ?_
                    refine Go.seq ?_
                    refine Go.seq ?_
                    refine Go.r0 c7 rfl rfl (sq z7 (oMv rfl rfl) <| sq z7 (oMv rfl rfl) <| sq z7 (oBi rfl rfl rfl rfl) <| nl) ?_
                    refine Unw.seq ?_
                    by_cases hc10 : x63 ≠ x45.1
                    · rw [if_pos hc10] at h
                      refine Go.condT rfl (iNe.2 hc10) ?_
                      refine Go.seq ?_
                      refine Go.r0 c7 rfl rfl (sq z7 (oAsI rfl rfl) <| nl) ?_
                      refine Unw.seq ?_
                      refine Go.ret (Unw.ret ?_)
                      cases h
                      exact Fin_ret (fin_of rfl rF7 rfl rfl)
                    · rw [if_neg hc10] at h
                      refine Go.condF rfl (byF iNe hc10) ?_
                      refine Go.skip ?_
                      refine Unw.seq ?_
                      refine Go.seq ?_
                      refine Go.r0 c7 rfl rfl (sq z7 (oAsI rfl rfl) <| nl) ?_
                      refine Unw.seq ?_
                      refine Go.ret (Unw.ret ?_)
                      cases h
                      exact Fin_ret (fin_of rfl rF7 rfl rfl)
                · rw [if_neg hc8] at h
                  refine Go.condT rfl (nT (byF Iff.rfl hc8)) ?_
                  refine Go.seq ?_
                  refine Go.r0 c7 rfl rfl (sq z7 (oAsI rfl rfl) <| nl) ?_
                  refine Unw.seq ?_
                  refine Go.ret (Unw.ret ?_)
                  cases h
                  exact Fin_ret (fin_of rfl rF7 rfl rfl)
      · rw [if_neg hc3] at h
        refine Go.condT rfl (nT (byF Iff.rfl hc3)) ?_
        refine Go.seq ?_
        refine Go.r0 c7 rfl rfl (sq z7 (oAsI rfl rfl) <| nl) ?_
        refine Unw.seq ?_
        refine Go.ret (Unw.ret ?_)
        cases h
        exact Fin_ret (fin_of rfl rF7 rfl rfl)
    · rw [if_neg hc2] at h
      refine Go.condT rfl (nT (byF Iff.rfl hc2)) ?_
      refine Go.seq ?_
      refine Go.r0 c7 rfl rfl (sq z7 (oAsI rfl rfl) <| nl) ?_
      refine Unw.seq ?_
      refine Go.ret (Unw.ret ?_)
      cases h
      exact Fin_ret (fin_of rfl rF7 rfl rfl)
end
end Go.Proofs.Yteglmkbkjaeijaa
