/- The machine answers, at each function of the program that is reached, what its plain function answers. Conditions: none. -/
import Derived.Test.YteglmkbkjaeijaaProg
import Derived.KernelRfl
import Derived.Test.YteglmkbkjaeijaaSimRf
import Derived.Test.YteglmkbkjaeijaaTftT
namespace Go.Proofs.Yteglmkbkjaeijaa
open Go Go.Sim Go.Pw Go.Proofs
set_option linter.unusedVariables false
set_option linter.unusedSimpArgs false
set_option maxRecDepth 100000
set_option maxHeartbeats 4000000
noncomputable section

def e_S_Finding (x : S_Finding) : AV := .agg [.sc (.int .i64 x.Kind), .sc (.string x.Who), .sc (.string x.What)]

def fc6 : FCfg := { par := [.cst false], inn := [], out := [], loopK := [], frz := [], sch := [] }
def fc10 : FCfg := { par := [.cst false], inn := [], out := [], loopK := [], frz := [], sch := [] }
def fc18 : FCfg := { par := [.cst false, .cst false], inn := [], out := [], loopK := [], frz := [], sch := [] }
def fc19 : FCfg := { par := [.cst false], inn := [], out := [(3, some ([2], []))], loopK := [], frz := [], sch := [(3, .first 1 [2, 3, 4, 5, 8, 9, 12, 13] [0, 6, 7, 10, 11] (.first 2 [3, 4, 5, 8, 9, 12, 13] [0, 6, 7, 10, 11] (.first 6 [7, 8, 9, 12, 13] [0, 3, 4, 5, 10, 11] (.first 7 [8, 9, 12, 13] [0, 3, 4, 5, 10, 11] (.first 10 [11, 12, 13] [0, 3, 4, 5, 8, 9] (.first 11 [12, 13] [0, 3, 4, 5, 8, 9] (.fork 0 (.first 3 [4, 5, 8, 9, 12, 13] [] (.first 4 [5, 8, 9, 12, 13] [] (.first 5 [8, 9, 12, 13] [] (.first 8 [9, 12, 13] [] (.first 9 [12, 13] [] (.first 12 [13] [] (.fork 13 (.done) (.stop)))))))) (.stop))))))))] }
def fc20 : FCfg := { par := [.cst false], inn := [(3, some ([1, 2, 3], [1, 2, 3])), (4, some ([1, 2, 3], [1, 2, 3])), (5, some ([2, 3], [2, 3]))], out := [], loopK := [], frz := [], sch := [] }
def fc21 : FCfg := { par := [.cst false], inn := [], out := [], loopK := [], frz := [], sch := [] }
def fc36 : FCfg := { par := [.cst false], inn := [], out := [], loopK := [], frz := [], sch := [] }
def fc37 : FCfg := { par := [], inn := [], out := [], loopK := [], frz := [], sch := [] }
def fc38 : FCfg := { par := [.cst false, .cst false, .cst false], inn := [], out := [(1, some ([6], []))], loopK := [], frz := [], sch := [] }
def fcs : List (Nat × FCfg) := [(6, fc6), (10, fc10), (18, fc18), (19, fc19), (20, fc20), (21, fc21), (36, fc36), (37, fc37), (38, fc38)]
def ons : List (Nat × Bool) := [(6, true), (10, true), (18, true), (19, true), (20, true), (21, true), (36, true), (37, true), (38, true)]
def cfg : Cfg := mkCfg ons fcs []
theorem c6 : cfg.fc 6 = fc6 := rfl
theorem z6 : (cfg.fc 6).frz = [] := rfl
theorem c10 : cfg.fc 10 = fc10 := rfl
theorem z10 : (cfg.fc 10).frz = [] := rfl
theorem c18 : cfg.fc 18 = fc18 := rfl
theorem z18 : (cfg.fc 18).frz = [] := rfl
theorem c19 : cfg.fc 19 = fc19 := rfl
theorem z19 : (cfg.fc 19).frz = [] := rfl
theorem c20 : cfg.fc 20 = fc20 := rfl
theorem z20 : (cfg.fc 20).frz = [] := rfl
theorem c21 : cfg.fc 21 = fc21 := rfl
theorem z21 : (cfg.fc 21).frz = [] := rfl
theorem c36 : cfg.fc 36 = fc36 := rfl
theorem z36 : (cfg.fc 36).frz = [] := rfl
theorem c37 : cfg.fc 37 = fc37 := rfl
theorem z37 : (cfg.fc 37).frz = [] := rfl
theorem c38 : cfg.fc 38 = fc38 := rfl
theorem z38 : (cfg.fc 38).frz = [] := rfl
theorem eF24 : elemSz Try.prog 24 = some (9, 1) := by kernel_rfl
theorem fF30_0 : fieldF Try.prog 30 0 = some 0 := by kernel_rfl
theorem fF30_1 : fieldF Try.prog 30 1 = some 1 := by kernel_rfl
theorem fF30_2 : fieldF Try.prog 30 2 = some 2 := by kernel_rfl
theorem fF33_0 : fieldF Try.prog 33 0 = some 0 := by kernel_rfl
theorem fF33_1 : fieldF Try.prog 33 1 = some 1 := by kernel_rfl
theorem fF33_2 : fieldF Try.prog 33 2 = some 2 := by kernel_rfl
theorem kF10_2 : callK Try.prog cfg 10 0 [2] = [(.cst false, [none])] := by kernel_rfl
theorem kF18_30_3 : callK Try.prog cfg 18 0 [30, 3] = [(.cst false, [none, none, none]), (.cst false, [none])] := by kernel_rfl
theorem kF19_33 : callK Try.prog cfg 19 0 [33] = [(.cst false, [none, none, none])] := by kernel_rfl
theorem kF20_30 : callK Try.prog cfg 20 0 [30] = [(.cst false, [none, none, none])] := by kernel_rfl
theorem kF21_33 : callK Try.prog cfg 21 0 [33] = [(.cst false, [none, none, none])] := by kernel_rfl
theorem kF36_2 : callK Try.prog cfg 36 0 [2] = [(.cst false, [none])] := by kernel_rfl
theorem kF37_ : callK Try.prog cfg 37 0 [] = [] := by kernel_rfl
theorem kF38_2_2_2 : callK Try.prog cfg 38 0 [2, 2, 2] = [(.cst false, [none]), (.cst false, [none]), (.cst false, [none])] := by kernel_rfl
theorem rF10 : resK Try.prog (Try.f10.results.toList.zip Try.f10.resultTypes.toList) = [(.tmp 2, [none], none)] := by kernel_rfl
theorem rF18 : resK Try.prog (Try.f18.results.toList.zip Try.f18.resultTypes.toList) = [(.tmp 4, [none], none)] := by kernel_rfl
theorem rF19 : resK Try.prog (Try.f19.results.toList.zip Try.f19.resultTypes.toList) = [(.tmp 2, [none], none)] := by kernel_rfl
theorem rF20 : resK Try.prog (Try.f20.results.toList.zip Try.f20.resultTypes.toList) = [(.cell 2 33, [none, none, none], some (true, 3))] := by kernel_rfl
theorem rF21 : resK Try.prog (Try.f21.results.toList.zip Try.f21.resultTypes.toList) = [(.tmp 2, [none], none)] := by kernel_rfl
theorem rF36 : resK Try.prog (Try.f36.results.toList.zip Try.f36.resultTypes.toList) = [(.tmp 2, [none], none)] := by kernel_rfl
theorem rF37 : resK Try.prog (Try.f37.results.toList.zip Try.f37.resultTypes.toList) = [(.tmp 0, [some 1], none)] := by kernel_rfl
theorem rF38 : resK Try.prog (Try.f38.results.toList.zip Try.f38.resultTypes.toList) = [(.tmp 6, [none], none)] := by kernel_rfl
theorem rF6 : resK Try.prog (Try.f6.results.toList.zip Try.f6.resultTypes.toList) = [(.tmp 2, [none], none)] := by kernel_rfl
theorem sF24 : sliceF Try.prog 24 = some (9, 1, [none], false, 16, [.im 0 (.sc (.string ⟨#[]⟩))]) := by kernel_rfl
theorem tF2 : tyF Try.prog 2 = some ([.im 0 (.sc (.int .i64 0))], [none], false, 1) := by kernel_rfl
theorem tF30 : tyF Try.prog 30 = some ([.im 0 (.sc (.int .i64 0)), .im 0 (.sc (.string ⟨#[]⟩)), .im 0 (.sc (.string ⟨#[]⟩))], [none, none, none], true, 3) := by kernel_rfl
theorem tF33 : tyF Try.prog 33 = some ([.im 0 (.sc (.int .i64 0)), .im 0 (.sc (.string ⟨#[]⟩)), .im 0 (.sc (.string ⟨#[]⟩))], [none, none, none], true, 3) := by kernel_rfl
theorem tF9 : tyF Try.prog 9 = some ([.im 0 (.sc (.string ⟨#[]⟩))], [none], false, 1) := by kernel_rfl
theorem uF9 : Try.prog.underlying 9 = some .string := by kernel_rfl

theorem L_laws_szFinding {a_0 : S_Finding} {left_1 : Int} {r : Int} (h : laws_szFinding a_0 left_1 = some r) : FL Try.prog cfg 18 [.im 2 true [.sc (.int .i64 a_0.Kind), .sc (.string a_0.Who), .sc (.string a_0.What)], .im 2 false [.sc (.int .i64 left_1)]] = some ([(false, [.im 0 (.sc (.int .i64 r))])], []) := by
  unfold laws_szFinding at h
  refine FL_goS (A := [(0, .v true [.im 2 (.sc (.int .i64 a_0.Kind)), .im 2 (.sc (.string a_0.Who)), .im 2 (.sc (.string a_0.What))]), (1, .v false [.im 2 (.sc (.int .i64 left_1))])]) (B := [(0, none), (1, none)]) (nt := 20) rfl rfl Try.func18 rfl rfl rfl rfl ?_
  refine Go.seq ?_
  refine Go.r0 c18 rfl rfl (sq z18 (oBx rfl tF30 rfl (tkI (tkI (tkI tk0)))) <| sq z18 (oAsI rfl rfl) <| nl) ?_
  refine Unw.seq ?_
  refine Go.seq ?_
  refine Go.r0 c18 rfl rfl (sq z18 (oMv rfl rfl) <| sq z18 (oFA (r' := .mp 2 0 1) rfl fF30_1 rfl rfl) <| sq z18 (oLd (cs := [.im 0 _]) rfl tF9 rfl rfl) <| sq z18 (oLnS rfl rfl uF9 rfl) <| sq z18 (oBi rfl rfl rfl rfl) <| sq z18 (oAsI rfl rfl) <| nl) ?_
  refine Unw.seq ?_
  refine Go.seq ?_
  refine Go.seq ?_
  refine Go.r0 c18 rfl rfl (sq z18 (oMv rfl rfl) <| sq z18 (oBi rfl rfl rfl rfl) <| nl) ?_
  refine Unw.seq ?_
  by_cases hc1 : (w64 (left_1 - (a_0.Who.size : Int))) < 0
  · rw [if_pos hc1] at h
    refine Go.condT rfl (iDec.2 hc1) ?_
    refine Go.seq ?_
    refine Go.r0 c18 rfl rfl (sq z18 (oAsI rfl rfl) <| nl) ?_
    refine Unw.seq ?_
    refine Go.ret (Unw.ret ?_)
    cases h
    exact Fin_ret (fin_of rfl rF18 rfl rfl)
  · rw [if_neg hc1] at h
    refine Go.condF rfl (byF iDec hc1) ?_
    refine Go.skip ?_
    refine Unw.seq ?_
    refine Go.seq ?_
    refine Go.r0 c18 rfl rfl (sq z18 (oMv rfl rfl) <| sq z18 (oFA (r' := .mp 2 0 2) rfl fF30_2 rfl rfl) <| sq z18 (oLd (cs := [.im 0 _]) rfl tF9 rfl rfl) <| sq z18 (oLnS rfl rfl uF9 rfl) <| sq z18 (oBi rfl rfl rfl rfl) <| sq z18 (oAsI rfl rfl) <| nl) ?_
    refine Unw.seq ?_
    refine Go.seq ?_
    refine Go.seq ?_
    refine Go.r0 c18 rfl rfl (sq z18 (oMv rfl rfl) <| sq z18 (oBi rfl rfl rfl rfl) <| nl) ?_
    refine Unw.seq ?_
    by_cases hc2 : (w64 ((w64 (left_1 - (a_0.Who.size : Int))) - (a_0.What.size : Int))) < 0
    · rw [if_pos hc2] at h
      refine Go.condT rfl (iDec.2 hc2) ?_
      refine Go.seq ?_
      refine Go.r0 c18 rfl rfl (sq z18 (oAsI rfl rfl) <| nl) ?_
      refine Unw.seq ?_
      refine Go.ret (Unw.ret ?_)
      cases h
      exact Fin_ret (fin_of rfl rF18 rfl rfl)
    · rw [if_neg hc2] at h
      refine Go.condF rfl (byF iDec hc2) ?_
      refine Go.skip ?_
      refine Unw.seq ?_
      refine Go.seq ?_
      refine Go.r0 c18 rfl rfl (sq z18 (oMv rfl rfl) <| sq z18 (oAsI rfl rfl) <| nl) ?_
      refine Unw.seq ?_
      refine Go.ret (Unw.ret ?_)
      cases h
      exact Fin_ret (fin_of rfl rF18 rfl rfl)
theorem L_laws_toFinding {a_0 : S_Finding} {r : S_Finding} (h : laws_toFinding a_0 = some r) : FL Try.prog cfg 20 [.im 2 true [.sc (.int .i64 a_0.Kind), .sc (.string a_0.Who), .sc (.string a_0.What)]] = some ([(true, [.im 0 (.sc (.int .i64 r.Kind)), .im 0 (.sc (.string r.Who)), .im 0 (.sc (.string r.What))])], []) := by
  unfold laws_toFinding at h
  refine FL_goS (A := [(0, .v true [.im 2 (.sc (.int .i64 a_0.Kind)), .im 2 (.sc (.string a_0.Who)), .im 2 (.sc (.string a_0.What))])]) (B := [(0, none)]) (nt := 14) rfl rfl Try.func20 rfl rfl rfl rfl ?_
  refine Go.seq ?_
  refine Go.r0 c20 rfl rfl (sq z20 (oBx rfl tF30 rfl (tkI (tkI (tkI tk0)))) <| sq z20 (oAl rfl tF33 (tkI (tkI (tkI tk0)))) <| nl) ?_
  refine Unw.seq ?_
  refine Go.seq ?_
  refine Go.r0 c20 rfl rfl (sq z20 (oAl rfl tF33 (tkI (tkI (tkI tk0)))) <| nl) ?_
  refine Unw.seq ?_
  refine Go.seq ?_
  refine Go.r0 c20 rfl rfl (sq z20 (oFA (r' := .mp 1 0 0) rfl fF30_0 rfl rfl) <| sq z20 (oLd (cs := [.im 0 _]) rfl tF2 rfl rfl) <| sq z20 (oFA (r' := .mp 3 0 0) rfl fF33_0 rfl rfl) <| sq z20 (oSt tF2 rfl rfl rfl (tkI tk0) rfl rfl rfl) <| nl) ?_
  refine Unw.seq ?_
  refine Go.seq ?_
  refine Go.r1 c20 rfl rfl (st1 := mk [(1, .v false [.mp 1 0 0]), (2, .v false [.mp 2 0 0]), (3, .v false [.mp 3 0 0])] [(1, some ⟨0, 0, false, true, false, true, [⟨.imm, 0, 0, .sc (.int .i64 a_0.Kind)⟩, ⟨.imm, 0, 0, .sc (.string a_0.Who)⟩, ⟨.imm, 0, 0, .sc (.string a_0.What)⟩]⟩), (2, some ⟨0, 0, false, true, false, true, [⟨.imm, 0, 0, .sc (.int .i64 0)⟩, ⟨.imm, 0, 0, .sc (.string (⟨#[]⟩ : ByteArray))⟩, ⟨.imm, 0, 0, .sc (.string (⟨#[]⟩ : ByteArray))⟩]⟩), (3, some ⟨0, 0, false, true, false, true, [⟨.imm, 0, 0, .sc (.int .i64 a_0.Kind)⟩, ⟨.imm, 0, 0, .sc (.string (⟨#[]⟩ : ByteArray))⟩, ⟨.imm, 0, 0, .sc (.string (⟨#[]⟩ : ByteArray))⟩]⟩)]) rfl (sq z20 (oFA (r' := .mp 1 0 1) rfl fF30_1 rfl rfl) <| sq z20 (oLd (cs := [.im 0 _]) rfl tF9 rfl rfl) <| sq z20 (oFA (r' := .mp 3 0 1) rfl fF33_1 rfl rfl) <| sq z20 (oSt tF9 rfl rfl rfl (tkI tk0) rfl rfl rfl) <| nl) ?_
  refine Unw.seq ?_
  refine Go.seq ?_
  refine Go.r1 c20 rfl rfl (st1 := mk [(1, .v false [.mp 1 0 0]), (2, .v false [.mp 2 0 0]), (3, .v false [.mp 3 0 0])] [(1, some ⟨0, 0, false, true, false, true, [⟨.imm, 0, 0, .sc (.int .i64 a_0.Kind)⟩, ⟨.imm, 0, 0, .sc (.string a_0.Who)⟩, ⟨.imm, 0, 0, .sc (.string a_0.What)⟩]⟩), (2, some ⟨0, 0, false, true, false, true, [⟨.imm, 0, 0, .sc (.int .i64 0)⟩, ⟨.imm, 0, 0, .sc (.string (⟨#[]⟩ : ByteArray))⟩, ⟨.imm, 0, 0, .sc (.string (⟨#[]⟩ : ByteArray))⟩]⟩), (3, some ⟨0, 0, false, true, false, true, [⟨.imm, 0, 0, .sc (.int .i64 a_0.Kind)⟩, ⟨.imm, 0, 0, .sc (.string a_0.Who)⟩, ⟨.imm, 0, 0, .sc (.string (⟨#[]⟩ : ByteArray))⟩]⟩)]) rfl (sq z20 (oFA (r' := .mp 1 0 2) rfl fF30_2 rfl rfl) <| sq z20 (oLd (cs := [.im 0 _]) rfl tF9 rfl rfl) <| sq z20 (oFA (r' := .mp 3 0 2) rfl fF33_2 rfl rfl) <| sq z20 (oSt tF9 rfl rfl rfl (tkI tk0) rfl rfl rfl) <| nl) ?_
  refine Unw.seq ?_
  refine Go.seq ?_
  refine Go.r1 c20 rfl rfl (st1 := mk [(2, .v false [.mp 2 0 0]), (3, .v false [.mp 3 0 0])] [(2, some ⟨0, 0, false, true, false, true, [⟨.imm, 0, 0, .sc (.int .i64 0)⟩, ⟨.imm, 0, 0, .sc (.string (⟨#[]⟩ : ByteArray))⟩, ⟨.imm, 0, 0, .sc (.string (⟨#[]⟩ : ByteArray))⟩]⟩), (3, some ⟨0, 0, false, true, false, true, [⟨.imm, 0, 0, .sc (.int .i64 a_0.Kind)⟩, ⟨.imm, 0, 0, .sc (.string a_0.Who)⟩, ⟨.imm, 0, 0, .sc (.string a_0.What)⟩]⟩)]) rfl (sq z20 (oLd (cs := [.im 0 _, .im 0 _, .im 0 _]) rfl tF33 rfl rfl) <| sq z20 (oSt tF33 rfl rfl rfl (tkI (tkI (tkI tk0))) rfl rfl rfl) <| nl) ?_
  refine Unw.seq ?_
  refine Go.ret (Unw.ret ?_)
  cases h
  exact Fin_ret (fin_of rfl rF20 rfl rfl)
theorem L_spec_l00In {n_0 : Int} {low_1 : Int} {high_2 : Int} {r : Bool} (h : spec_l00In n_0 low_1 high_2 = some r) : FL Try.prog cfg 38 [.im 2 false [.sc (.int .i64 n_0)], .im 2 false [.sc (.int .i64 low_1)], .im 2 false [.sc (.int .i64 high_2)]] = some ([(false, [.im 0 (.sc (.bool r))])], []) := by
  unfold spec_l00In at h
  refine FL_goS (A := [(0, .v false [.im 2 (.sc (.int .i64 n_0))]), (1, .v false [.im 2 (.sc (.int .i64 low_1))]), (2, .v false [.im 2 (.sc (.int .i64 high_2))])]) (B := [(0, none), (1, none), (2, none)]) (nt := 15) rfl rfl Try.func38 rfl rfl rfl rfl ?_
  refine Go.seq ?_
  refine Go.r0 c38 rfl rfl (sq z38 (oAsI rfl rfl) <| nl) ?_
  refine Unw.seq ?_
  refine Go.seq ?_
  refine Go.rX c38 rfl rfl rfl (mk [(6, bv ((decide (n_0 ≥ low_1)) && (decide (n_0 ≤ high_2))))] []) ?_ ?_
  · by_cases hc1 : n_0 ≥ low_1
    · exact ⟨_, sq z38 (oMv rfl rfl) <| sq z38 (oMv rfl rfl) <| sq z38 (oBi rfl rfl rfl rfl) <| sq z38 (oMv rfl rfl) <| sgT z38 rfl rfl (iDec.2 hc1) (oMv rfl rfl) <| sgT z38 rfl rfl (iDec.2 hc1) (oMv rfl rfl) <| sgT z38 rfl rfl (iDec.2 hc1) (oBi rfl rfl rfl rfl) <| sq z38 (oPkT rfl rfl (iDec.2 hc1) rfl) <| sq z38 (oAsI rfl rfl) <| nl, (by (try rw [(iDec.2 hc1)]); rfl)⟩
    · exact ⟨_, sq z38 (oMv rfl rfl) <| sq z38 (oMv rfl rfl) <| sq z38 (oBi rfl rfl rfl rfl) <| sq z38 (oMv rfl rfl) <| sgF rfl rfl (byF iDec hc1) rfl <| sgF rfl rfl (byF iDec hc1) rfl <| sgF rfl rfl (byF iDec hc1) rfl <| sq z38 (oPkF rfl rfl (byF iDec hc1) rfl) <| sq z38 (oAsI rfl rfl) <| nl, (by (try rw [(byF iDec hc1)]); rfl)⟩
  · refine Unw.seq ?_
    refine Go.ret (Unw.ret ?_)
    cases h
    exact Fin_ret (fin_of rfl rF38 rfl rfl)
theorem L_spec_l31Kind {kind_0 : Int} {r : Bool} (h : spec_l31Kind kind_0 = some r) : FL Try.prog cfg 36 [.im 2 false [.sc (.int .i64 kind_0)]] = some ([(false, [.im 0 (.sc (.bool r))])], []) := by
  unfold spec_l31Kind at h
  refine FL_goS (A := [(0, .v false [.im 2 (.sc (.int .i64 kind_0))])]) (B := [(0, none)]) (nt := 5) rfl rfl Try.func36 rfl rfl rfl rfl ?_
  refine Go.seq ?_
  refine Go.r0 c36 rfl rfl (sq z36 (oAsI rfl rfl) <| nl) ?_
  refine Unw.seq ?_
  refine Go.seq ?_
  obtain ⟨x4, hx4, h⟩ := bs h
  refine Go.r0 c36 rfl rfl (sq z36 (oMv rfl rfl) <| sq z36 (oCa (xs := [.v false [.im 2 _], .v false [.im 0 _], .v false [.im 0 _]]) (vs := [(false, [.im 0 _])]) (v := .v false [.im 0 _]) (L_spec_l00In hx4) rfl rfl kF38_2_2_2 rfl (ppC rfl (ppC rfl (ppC rfl pp0))) rfl rfl pb0 rfl rfl rfl) <| sq z36 (oAsI rfl rfl) <| nl) ?_
  refine Unw.seq ?_
  refine Go.ret (Unw.ret ?_)
  cases h
  exact Fin_ret (fin_of rfl rF36 rfl rfl)
theorem L_spec_l31Names  {r : (List ByteArray)} (h : spec_l31Names  = some r) : FL Try.prog cfg 37 [] = some ([(false, [.ow 0 1 (List.map eS r)])], []) := by
  unfold spec_l31Names at h
  refine FL_goS (A := []) (B := []) (nt := 2) rfl rfl Try.func37 rfl rfl rfl rfl ?_
  refine Go.seq ?_
  refine Go.r0 c37 rfl rfl (sq z37 (oAsN rfl rfl eF24) <| nl) ?_
  refine Unw.seq ?_
  refine Go.seq ?_
  refine Go.r0 c37 rfl rfl (sq z37 (oBS (es := List.map eS ([(⟨#[]⟩ : ByteArray), (⟨#[99, 111, 118, 101, 114]⟩ : ByteArray), (⟨#[110, 101, 115, 116]⟩ : ByteArray), (⟨#[98, 101, 118, 101, 108]⟩ : ByteArray), (⟨#[111, 114, 100, 101, 114]⟩ : ByteArray), (⟨#[112, 97, 116, 104]⟩ : ByteArray)] : List ByteArray)) rfl sF24 rfl (ptC rfl (fxI fx0) rfl (ptC rfl (fxI fx0) rfl (ptC rfl (fxI fx0) rfl (ptC rfl (fxI fx0) rfl (ptC rfl (fxI fx0) rfl (ptC rfl (fxI fx0) rfl pt0)))))) (flat0 rfl fun _ => rfl)) <| sq z37 (oAsO rfl rfl rfl rfl rfl) <| nl) ?_
  refine Unw.seq ?_
  refine Go.ret (Unw.ret ?_)
  cases h
  exact Fin_ret (fin_of rfl rF37 rfl rfl)
theorem L_spec_FindingText {f_0 : S_Finding} {r : ByteArray} (h : spec_FindingText f_0 = some r) : FL Try.prog cfg 19 [.im 2 true [.sc (.int .i64 f_0.Kind), .sc (.string f_0.Who), .sc (.string f_0.What)]] = some ([(false, [.im 0 (.sc (.string r))])], []) := by
  unfold spec_FindingText at h
  refine FL_goS (A := [(0, .v true [.im 2 (.sc (.int .i64 f_0.Kind)), .im 2 (.sc (.string f_0.Who)), .im 2 (.sc (.string f_0.What))])]) (B := [(0, none)]) (nt := 20) rfl rfl Try.func19 rfl rfl rfl rfl ?_
  refine Go.seq ?_
  refine Go.r0 c19 rfl rfl (sq z19 (oBx rfl tF33 rfl (tkI (tkI (tkI tk0)))) <| sq z19 (oAsI rfl rfl) <| nl) ?_
  refine Unw.seq ?_
  refine Go.seq ?_
  refine Go.seq ?_
  obtain ⟨x5, hx5, h⟩ := bs h
  refine Go.r0 c19 rfl rfl (sq z19 (oFA (r' := .mp 1 0 0) rfl fF33_0 rfl rfl) <| sq z19 (oLd (cs := [.im 0 _]) rfl tF2 rfl rfl) <| sq z19 (oCa (xs := [.v false [.im 0 _]]) (vs := [(false, [.im 0 _])]) (v := .v false [.im 0 _]) (L_spec_l31Kind hx5) rfl rfl kF36_2 rfl (ppC rfl pp0) rfl rfl pb0 rfl rfl rfl) <| sq z19 (oUn rfl rfl rfl) <| nl) ?_
  refine Unw.seq ?_
  by_cases hc1 : x5 = true
  · rw [if_pos hc1] at h
    refine Go.condF rfl (nF (Iff.rfl.2 hc1)) ?_
    refine Go.skip ?_
    refine Unw.seq ?_
    refine Go.seq ?_
    obtain ⟨x7, hx7, h⟩ := bs h
    obtain ⟨x10, hx10, h⟩ := bs h
    obtain ⟨x12, hx12, h⟩ := bs h
    obtain ⟨x15, hx15, h⟩ := bs h
    obtain ⟨x16, hx16, h⟩ := bs h
    obtain ⟨x19, hx19, h⟩ := bs h
    refine Go.dr c19 rfl rfl rfl rfl (mk [(2, sv x19)] []) (sT rfl (dN z19 rfl (oFA (r' := .mp 1 0 0) rfl fF33_0 rfl rfl)) <| sT rfl (dN z19 rfl (oLd (cs := [.im 0 _]) rfl tF2 rfl rfl)) <| sT rfl (dN z19 rfl (oFA (r' := .mp 1 0 1) rfl fF33_1 rfl rfl)) <| sT rfl (dN z19 rfl (oLd (cs := [.im 0 _]) rfl tF9 rfl rfl)) <| sT rfl (dN z19 rfl (oFA (r' := .mp 1 0 2) rfl fF33_2 rfl rfl)) <| sT rfl (dN z19 rfl (oLd (cs := [.im 0 _]) rfl tF9 rfl rfl)) <| sS (dN z19 rfl (oCr (xs := []) (vs := [(false, [.own 7 0 0])]) (v := .v false [.own 7 0 0]) (c := ⟨.sh, 0, _⟩) (cs := []) (L_spec_l31Names hx7) rfl rfl kF37_ rfl pp0 rfl rfl pb0 rfl rfl rfl)) (sT rfl (dN z19 rfl (oIAO rfl hx10 sF24 rfl rfl rfl rfl)) <| sT rfl (dN z19 rfl (oLdE (cs := [.im 0 _]) rfl tF9 rfl rfl rfl (fun e => nomatch e) (rd_get hx10) rfl rfl)) <| sT rfl (dN z19 rfl (oCat rfl hx12 rfl rfl)) <| sT rfl (dN z19 rfl (oCat rfl hx15 rfl rfl)) <| sT rfl (dN z19 rfl (oCat rfl hx16 rfl rfl)) <| sT rfl (dN z19 rfl (oCat rfl hx19 rfl rfl)) <| sS (dN z19 rfl (oAsI rfl rfl)) (sD rfl))) ?_
    refine Unw.seq ?_
    refine Go.ret (Unw.ret ?_)
    cases h
    exact Fin_ret (fin_of rfl rF19 rfl rfl)
  · rw [if_neg hc1] at h
    refine Go.condT rfl (nT (byF Iff.rfl hc1)) ?_
    refine Go.seq ?_
    refine Go.r0 c19 rfl rfl (sq z19 (oAsI rfl rfl) <| nl) ?_
    refine Unw.seq ?_
    refine Go.ret (Unw.ret ?_)
    cases h
    exact Fin_ret (fin_of rfl rF19 rfl rfl)
theorem L_impl_FindingName {kind_0 : Int} {r : ByteArray} (h : impl_FindingName kind_0 = some r) : FL Try.prog cfg 10 [.im 2 false [.sc (.int .i64 kind_0)]] = some ([(false, [.im 0 (.sc (.string r))])], []) := by
  unfold impl_FindingName at h
  refine FL_goS (A := [(0, .v false [.im 2 (.sc (.int .i64 kind_0))])]) (B := [(0, none)]) (nt := 14) rfl rfl Try.func10 rfl rfl rfl rfl ?_
  refine Go.seq ?_
  refine Go.r0 c10 rfl rfl (sq z10 (oAsI rfl rfl) <| nl) ?_
  refine Unw.seq ?_
  refine Go.seq ?_
  refine Go.seq ?_
  refine Go.r0 c10 rfl rfl (sq z10 (oMv rfl rfl) <| nl) ?_
  refine Unw.seq ?_
  refine Go.block ?_
  refine Go.seq ?_
  refine Go.r0 c10 rfl rfl (sq z10 (oBi rfl rfl rfl rfl) <| sq z10 (oAsI rfl rfl) <| nl) ?_
  refine Unw.seq ?_
  by_cases hc1 : kind_0 = 1
  · rw [if_pos hc1] at h
    refine Go.condT rfl (iEq.2 hc1) ?_
    refine Go.seq ?_
    refine Go.r0 c10 rfl rfl (sq z10 (oAsI rfl rfl) <| nl) ?_
    refine Unw.seq ?_
    refine Go.ret (Unw.ret ?_)
    cases h
    exact Fin_ret (fin_of rfl rF10 rfl rfl)
  · rw [if_neg hc1] at h
    refine Go.condF rfl (byF iEq hc1) ?_
    refine Go.seq ?_
    refine Go.r0 c10 rfl rfl (sq z10 (oBi rfl rfl rfl rfl) <| sq z10 (oAsI rfl rfl) <| nl) ?_
    refine Unw.seq ?_
    by_cases hc2 : kind_0 = 2
    · rw [if_pos hc2] at h
      refine Go.condT rfl (iEq.2 hc2) ?_
      refine Go.seq ?_
      refine Go.r0 c10 rfl rfl (sq z10 (oAsI rfl rfl) <| nl) ?_
      refine Unw.seq ?_
      refine Go.ret (Unw.ret ?_)
      cases h
      exact Fin_ret (fin_of rfl rF10 rfl rfl)
    · rw [if_neg hc2] at h
      refine Go.condF rfl (byF iEq hc2) ?_
      refine Go.seq ?_
      refine Go.r0 c10 rfl rfl (sq z10 (oBi rfl rfl rfl rfl) <| sq z10 (oAsI rfl rfl) <| nl) ?_
      refine Unw.seq ?_
      by_cases hc3 : kind_0 = 3
      · rw [if_pos hc3] at h
        refine Go.condT rfl (iEq.2 hc3) ?_
        refine Go.seq ?_
        refine Go.r0 c10 rfl rfl (sq z10 (oAsI rfl rfl) <| nl) ?_
        refine Unw.seq ?_
        refine Go.ret (Unw.ret ?_)
        cases h
        exact Fin_ret (fin_of rfl rF10 rfl rfl)
      · rw [if_neg hc3] at h
        refine Go.condF rfl (byF iEq hc3) ?_
        refine Go.seq ?_
        refine Go.r0 c10 rfl rfl (sq z10 (oBi rfl rfl rfl rfl) <| sq z10 (oAsI rfl rfl) <| nl) ?_
        refine Unw.seq ?_
        by_cases hc4 : kind_0 = 4
        · rw [if_pos hc4] at h
          refine Go.condT rfl (iEq.2 hc4) ?_
          refine Go.seq ?_
          refine Go.r0 c10 rfl rfl (sq z10 (oAsI rfl rfl) <| nl) ?_
          refine Unw.seq ?_
          refine Go.ret (Unw.ret ?_)
          cases h
          exact Fin_ret (fin_of rfl rF10 rfl rfl)
        · rw [if_neg hc4] at h
          refine Go.condF rfl (byF iEq hc4) ?_
          refine Go.seq ?_
          refine Go.r0 c10 rfl rfl (sq z10 (oBi rfl rfl rfl rfl) <| sq z10 (oAsI rfl rfl) <| nl) ?_
          refine Unw.seq ?_
          by_cases hc5 : kind_0 = 5
          · rw [if_pos hc5] at h
            refine Go.condT rfl (iEq.2 hc5) ?_
            refine Go.seq ?_
            refine Go.r0 c10 rfl rfl (sq z10 (oAsI rfl rfl) <| nl) ?_
            refine Unw.seq ?_
            refine Go.ret (Unw.ret ?_)
            cases h
            exact Fin_ret (fin_of rfl rF10 rfl rfl)
          · rw [if_neg hc5] at h
            refine Go.condF rfl (byF iEq hc5) ?_
            refine Go.skip ?_
            refine Unw.blk ?_
            refine Unw.seq ?_
            refine Go.seq ?_
            refine Go.r0 c10 rfl rfl (sq z10 (oAsI rfl rfl) <| nl) ?_
            refine Unw.seq ?_
            refine Go.ret (Unw.ret ?_)
            cases h
            exact Fin_ret (fin_of rfl rF10 rfl rfl)
theorem L_impl_FindingText {f_0 : S_Finding} {r : ByteArray} (h : impl_FindingText f_0 = some r) : FL Try.prog cfg 21 [.im 2 true [.sc (.int .i64 f_0.Kind), .sc (.string f_0.Who), .sc (.string f_0.What)]] = some ([(false, [.im 0 (.sc (.string r))])], []) := by
  unfold impl_FindingText at h
  refine FL_goS (A := [(0, .v true [.im 2 (.sc (.int .i64 f_0.Kind)), .im 2 (.sc (.string f_0.Who)), .im 2 (.sc (.string f_0.What))])]) (B := [(0, none)]) (nt := 18) rfl rfl Try.func21 rfl rfl rfl rfl ?_
  refine Go.seq ?_
  refine Go.r0 c21 rfl rfl (sq z21 (oBx rfl tF33 rfl (tkI (tkI (tkI tk0)))) <| sq z21 (oAsI rfl rfl) <| nl) ?_
  refine Unw.seq ?_
  refine Go.seq ?_
  obtain ⟨x6, hx6, h⟩ := bs h
  refine Go.r0 c21 rfl rfl (sq z21 (oFA (r' := .mp 1 0 0) rfl fF33_0 rfl rfl) <| sq z21 (oLd (cs := [.im 0 _]) rfl tF2 rfl rfl) <| sq z21 (oCa (xs := [.v false [.im 0 _]]) (vs := [(false, [.im 0 _])]) (v := .v false [.im 0 _]) (L_impl_FindingName hx6) rfl rfl kF10_2 rfl (ppC rfl pp0) rfl rfl pb0 rfl rfl rfl) <| sq z21 (oAsI rfl rfl) <| nl) ?_
  refine Unw.seq ?_
  refine Go.seq ?_
  refine Go.seq ?_
  refine Go.r0 c21 rfl rfl (sq z21 (oMv rfl rfl) <| sq z21 (oBi rfl rfl rfl rfl) <| nl) ?_
  refine Unw.seq ?_
  by_cases hc1 : x6 = (⟨#[]⟩ : ByteArray)
  · rw [if_pos hc1] at h
    refine Go.condT rfl (iStr.2 hc1) ?_
    refine Go.seq ?_
    refine Go.r0 c21 rfl rfl (sq z21 (oAsI rfl rfl) <| nl) ?_
    refine Unw.seq ?_
    refine Go.ret (Unw.ret ?_)
    cases h
    exact Fin_ret (fin_of rfl rF21 rfl rfl)
  · rw [if_neg hc1] at h
    refine Go.condF rfl (byF iStr hc1) ?_
    refine Go.skip ?_
    refine Unw.seq ?_
    refine Go.seq ?_
    obtain ⟨x10, hx10, h⟩ := bs h
    obtain ⟨x13, hx13, h⟩ := bs h
    obtain ⟨x14, hx14, h⟩ := bs h
    obtain ⟨x17, hx17, h⟩ := bs h
    refine Go.r0 c21 rfl rfl (sq z21 (oMv rfl rfl) <| sq z21 (oCat rfl hx10 rfl rfl) <| sq z21 (oFA (r' := .mp 1 0 1) rfl fF33_1 rfl rfl) <| sq z21 (oLd (cs := [.im 0 _]) rfl tF9 rfl rfl) <| sq z21 (oCat rfl hx13 rfl rfl) <| sq z21 (oCat rfl hx14 rfl rfl) <| sq z21 (oFA (r' := .mp 1 0 2) rfl fF33_2 rfl rfl) <| sq z21 (oLd (cs := [.im 0 _]) rfl tF9 rfl rfl) <| sq z21 (oCat rfl hx17 rfl rfl) <| sq z21 (oAsI rfl rfl) <| nl) ?_
    refine Unw.seq ?_
    refine Go.ret (Unw.ret ?_)
    cases h
    exact Fin_ret (fin_of rfl rF21 rfl rfl)
theorem L_laws_FnExactFindingText {aF_0 : S_Finding} {r : Bool} (h : laws_FnExactFindingText aF_0 = some r) : FL Try.prog cfg 6 [.im 2 true [.sc (.int .i64 aF_0.Kind), .sc (.string aF_0.Who), .sc (.string aF_0.What)]] = some ([(false, [.im 0 (.sc (.bool r))])], []) := by
  unfold laws_FnExactFindingText at h
  refine FL_goS (A := [(0, .v true [.im 2 (.sc (.int .i64 aF_0.Kind)), .im 2 (.sc (.string aF_0.Who)), .im 2 (.sc (.string aF_0.What))])]) (B := [(0, none)]) (nt := 20) rfl rfl Try.func6 rfl rfl rfl rfl ?_
  refine Go.seq ?_
  refine Go.r0 c6 rfl rfl (sq z6 (oBx rfl tF30 rfl (tkI (tkI (tkI tk0)))) <| sq z6 (oAsI rfl rfl) <| nl) ?_
  refine Unw.seq ?_
  refine Go.seq ?_
  refine Go.r0 c6 rfl rfl (sq z6 (oAsI rfl rfl) <| nl) ?_
  refine Unw.seq ?_
  refine Go.seq ?_
  obtain ⟨x8, hx8, h⟩ := bs h
  refine Go.r0 c6 rfl rfl (sq z6 (oLd (cs := [.im 0 _, .im 0 _, .im 0 _]) rfl tF30 rfl rfl) <| sq z6 (oMv rfl rfl) <| sq z6 (oCa (xs := [.v true [.im 0 _, .im 0 _, .im 0 _], .v false [.im 0 _]]) (vs := [(false, [.im 0 _])]) (v := .v false [.im 0 _]) (L_laws_szFinding hx8) rfl rfl kF18_30_3 rfl (ppC rfl (ppC rfl pp0)) rfl rfl pb0 rfl rfl rfl) <| sq z6 (oAsI rfl rfl) <| nl) ?_
  refine Unw.seq ?_
  refine Go.seq ?_
  refine Go.seq ?_
  refine Go.r0 c6 rfl rfl (sq z6 (oMv rfl rfl) <| sq z6 (oBi rfl rfl rfl rfl) <| nl) ?_
  refine Unw.seq ?_
  by_cases hc1 : x8 < 0
  · rw [if_pos hc1] at h
    refine Go.condT rfl (iDec.2 hc1) ?_
    refine Go.seq ?_
    refine Go.r0 c6 rfl rfl (sq z6 (oAsI rfl rfl) <| nl) ?_
    refine Unw.seq ?_
    refine Go.ret (Unw.ret ?_)
    cases h
    exact Fin_ret (fin_of rfl rF6 rfl rfl)
  · rw [if_neg hc1] at h
    refine Go.condF rfl (byF iDec hc1) ?_
    refine Go.skip ?_
    refine Unw.seq ?_
    refine Go.seq ?_
    obtain ⟨x12, hx12, h⟩ := bs h
    obtain ⟨x13, hx13, h⟩ := bs h
    refine Go.r0 c6 rfl rfl (sq z6 (oLd (cs := [.im 0 _, .im 0 _, .im 0 _]) rfl tF30 rfl rfl) <| sq z6 (oCa (xs := [.v true [.im 0 _, .im 0 _, .im 0 _]]) (vs := [(true, [.im 0 _, .im 0 _, .im 0 _])]) (v := .v true [.im 0 _, .im 0 _, .im 0 _]) (L_laws_toFinding hx12) rfl rfl kF20_30 rfl (ppC rfl pp0) rfl rfl pb0 rfl rfl rfl) <| sq z6 (oCa (xs := [.v true [.im 0 _, .im 0 _, .im 0 _]]) (vs := [(false, [.im 0 _])]) (v := .v false [.im 0 _]) (L_spec_FindingText hx13) rfl rfl kF19_33 rfl (ppC rfl pp0) rfl rfl pb0 rfl rfl rfl) <| sq z6 (oAsI rfl rfl) <| nl) ?_
    refine Unw.seq ?_
    refine Go.seq ?_
    obtain ⟨x15, hx15, h⟩ := bs h
    obtain ⟨x16, hx16, h⟩ := bs h
    refine Go.r0 c6 rfl rfl (sq z6 (oLd (cs := [.im 0 _, .im 0 _, .im 0 _]) rfl tF30 rfl rfl) <| sq z6 (oCa (xs := [.v true [.im 0 _, .im 0 _, .im 0 _]]) (vs := [(true, [.im 0 _, .im 0 _, .im 0 _])]) (v := .v true [.im 0 _, .im 0 _, .im 0 _]) (L_laws_toFinding hx15) rfl rfl kF20_30 rfl (ppC rfl pp0) rfl rfl pb0 rfl rfl rfl) <| sq z6 (oCa (xs := [.v true [.im 0 _, .im 0 _, .im 0 _]]) (vs := [(false, [.im 0 _])]) (v := .v false [.im 0 _]) (L_impl_FindingText hx16) rfl rfl kF21_33 rfl (ppC rfl pp0) rfl rfl pb0 rfl rfl rfl) <| sq z6 (oAsI rfl rfl) <| nl) ?_
    refine Unw.seq ?_
    refine Go.seq ?_
    refine Go.seq ?_
    refine Go.r0 c6 rfl rfl (sq z6 (oMv rfl rfl) <| sq z6 (oMv rfl rfl) <| sq z6 (oBi rfl rfl rfl rfl) <| nl) ?_
    refine Unw.seq ?_
    by_cases hc2 : ¬ (x16 = x13)
    · rw [if_pos hc2] at h
      refine Go.condT rfl ((iNot iStr).2 hc2) ?_
      refine Go.seq ?_
      refine Go.r0 c6 rfl rfl (sq z6 (oAsI rfl rfl) <| nl) ?_
      refine Unw.seq ?_
      refine Go.ret (Unw.ret ?_)
      cases h
      exact Fin_ret (fin_of rfl rF6 rfl rfl)
    · rw [if_neg hc2] at h
      refine Go.condF rfl (byF (iNot iStr) hc2) ?_
      refine Go.skip ?_
      refine Unw.seq ?_
      refine Go.seq ?_
      refine Go.r0 c6 rfl rfl (sq z6 (oAsI rfl rfl) <| nl) ?_
      refine Unw.seq ?_
      refine Go.ret (Unw.ret ?_)
      cases h
      exact Fin_ret (fin_of rfl rF6 rfl rfl)
end
end Go.Proofs.Yteglmkbkjaeijaa
