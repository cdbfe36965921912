/- The machine answers, at each function of the program that is reached, what its plain function answers. Conditions: none. -/
import Derived.Test.YtambonpepalofaaProg
import Derived.KernelRfl
import Derived.Test.YtambonpepalofaaSimRs
import Derived.Test.YtambonpepalofaaTcaT
namespace Go.Proofs.Ytambonpepalofaa
open Go Go.Sim Go.Pw Go.Proofs
set_option linter.unusedVariables false
set_option linter.unusedSimpArgs false
set_option maxRecDepth 100000
set_option maxHeartbeats 4000000
noncomputable section
noncomputable abbrev u_S_Point (x:S_Point):List AV:=[I x.X,I x.Y]
noncomputable def e_S_Point (x:S_Point):AV:= .agg (u_S_Point x)
noncomputable abbrev u_S_Face (x:S_Face):List AV:=[Y x.Name,W 1 eI x.Ring]
noncomputable def e_S_Face (x:S_Face):AV:= .agg (u_S_Face x)
noncomputable abbrev u_S_Drawing (x:S_Drawing):List AV:=[I x.Width,I x.Height,W 2 e_S_Point x.Points,W 2 e_S_Face x.Faces]
noncomputable def e_S_Drawing (x:S_Drawing):AV:= .agg (u_S_Drawing x)
noncomputable abbrev u_S_l23Map (x:S_l23Map):List AV:=[W 1 (eL 1 eI) x.near,W 1 eB x.border]
noncomputable abbrev u_S_l23Search (x:S_l23Search):List AV:=[.cp (u_S_l23Map x.m) 0,W 1 eI x.order,V x.first,W 1 eI x.best,I x.count,I x.nodes,I x.budget]
noncomputable def e_S_l23Search (x:S_l23Search):AV:= .agg (u_S_l23Search x)
noncomputable abbrev u_S_assemblySearch (x:S_assemblySearch):List AV:=[W 1 (eL 1 eI) x.sides.near,W 1 eB x.sides.border,I x.left,I x.found,W 1 eI x.first,V x.one]
noncomputable def e_S_assemblySearch (x:S_assemblySearch):AV:= .agg (u_S_assemblySearch x)
noncomputable abbrev u_Ar2_Int (x:Ar2_Int):List AV:=[I x.e0,I x.e1]
noncomputable def e_Ar2_Int (x:Ar2_Int):AV:= .agg (u_Ar2_Int x)
noncomputable def fc6:FCfg:={par:=[.cst false,.cst false],inn:=[(7,some ([1,2,6,7,8],[2,8]))],out:=[(8,some ([2,8,38],[2,8])),(10,some ([43],[]))],loopK:=[],frz:=[],sch:=[(10,.first 0 [3,4] [1,2]<| .first 1 [2,3,4] []<| .fork 2 (.fork 3 (.first 4 [] []<| .done) (.stop)) (.stop))]}
noncomputable def fc17:FCfg:={par:=[.cst false,.cst false],inn:=[],out:=[],loopK:=[],frz:=[],sch:=[]}
noncomputable def fc36:FCfg:={par:=[.cst false,.cst false],inn:=[],out:=[],loopK:=[],frz:=[],sch:=[]}
noncomputable def fc37:FCfg:={par:=[.cst false,.cst false],inn:=[],out:=[],loopK:=[],frz:=[],sch:=[]}
noncomputable def fc38:FCfg:={par:=[.cst false],inn:=[(3,some ([1,2,3],[1,2,3])),(4,some ([1,2,3],[1,2,3])),(5,some ([1,2,3],[1,2,3])),(6,some ([2,3],[2,3]))],out:=[],loopK:=[],frz:=[],sch:=[]}
noncomputable def fc39:FCfg:={par:=[.cst false,.cst false],inn:=[],out:=[],loopK:=[],frz:=[],sch:=[]}
noncomputable def fc41:FCfg:={par:=[.cst false,.cst false],inn:=[(8,some ([],[]))],out:=[(6,some ([0,1,5,25],[]))],loopK:=[(4,([0,1,5],[]))],frz:=[],sch:=[(6,.first 0 [2,3,8] [1,4,5,6,7]<| .first 1 [2,3,8] [4,5,6,7]<| .first 2 [3,8] [4,5,6,7]<| .first 3 [8] [4,5,6,7]<| .first 4 [6,7,8] [5]<| .first 5 [6,7,8] []<| .first 6 [7,8] []<| .first 7 [8] []<| .first 8 [] []<| .done)]}
noncomputable def fc84:FCfg:={par:=[.cut 4],inn:=[(11,some ([],[]))],out:=[(1,some ([0,32],[])),(6,some ([0,3,75],[])),(9,some ([0,3,95],[]))],loopK:=[(4,([0,3],[]))],frz:=[],sch:=[(6,.first 0 (rg [1,4,5,34]) [4]<| .first 1 (rg [2,4,5,34]) [4]<| .first 2 (rg [3,4,5,34]) [4]<| .first 3 (rg [5,34]) [4]<| .first 4 (rg [5,34]) []<| .first 5 (rg [6,34]) []<| .first 6 (rg [7,34]) []<| .first 7 (rg [8,34]) []<| .fork 8 (.first 9 (rg [10,34]) []<| .first 10 (rg [11,34]) []<| .first 11 (rg [12,34]) []<| .first 12 (rg [13,34]) []<| .first 13 (rg [14,34]) []<| .first 14 [15,16,17,20,21,22,31,32,33] (rg [18,20,23,31])<| .first 15 [16,17,20,21,22,31,32,33] (rg [18,20,23,31])<| .first 16 [17,20,21,22,31,32,33] (rg [18,20,23,31])<| .first 17 [20,21,22,31,32,33] (rg [18,20,23,31])<| .first 18 [19,20,21,22,31,32,33] (rg [23,31])<| .first 19 [20,21,22,31,32,33] (rg [23,31])<| .first 20 [21,22,31,32,33] (rg [23,31])<| .first 21 [22,31,32,33] (rg [23,31])<| .first 22 [31,32,33] (rg [23,31])<| .first 23 (rg [24,27,28,34]) [27]<| .first 24 (rg [25,27,28,34]) [27]<| .first 25 [26,28,29,30,31,32,33] [27]<| .first 26 (rg [28,34]) [27]<| .first 27 (rg [28,34]) []<| .first 28 [29,30,31,32,33] []<| .first 29 [30,31,32,33] []<| .first 30 [31,32,33] []<| .first 31 [32,33] []<| .first 32 [33] []<| .first 33 [] []<| .done) (.stop))]}
noncomputable def fc86:FCfg:={par:=[.cst false,.cst false,.cst false],inn:=[(6,some ([8],[22])),(7,some ([8],[22]))],out:=[],loopK:=[],frz:=[],sch:=[]}
noncomputable def fc87:FCfg:={par:=[.cst false],inn:=[(6,some ([1,3,4,32,33,34],[1,4])),(9,some ([1],[1])),(12,some ([1,5,6,63,64,65],[1,6])),(18,some ([],[]))],out:=[(1,some ([1,30],[1])),(6,some ([1,32,33,34,60],[1])),(12,some ([1,6,63,64,65,89],[1,6])),(15,some ([1,63,64,65,104],[1]))],loopK:=[(4,([1,32,33,34],[1])),(10,([1,63,64,65],[1]))],frz:=[],sch:=[(6,.first 0 (rg [1,2,4,22]) [2,3]<| .first 1 (rg [4,22]) [2,3]<| .first 2 (rg [3,22]) []<| .first 3 (rg [4,22]) []<| .fork 4 (.first 5 (rg [6,22]) []<| .first 6 (rg [7,22]) []<| .first 7 (rg [8,9,11,22]) [9,10]<| .first 8 (rg [11,22]) [9,10]<| .first 9 (rg [10,22]) []<| .first 10 (rg [11,22]) []<| .fork 11 (.first 12 (rg [13,22]) []<| .first 13 (rg [14,22]) []<| .first 14 (rg [15,22]) []<| .first 15 [16,18,20,21] [17,19]<| .first 16 [18,20,21] [17,19]<| .first 17 [18,20,21] [19]<| .first 19 [20,21] [18]<| .fork 18 (.fork 20 (.first 21 [] []<| .done) (.stop)) (.stop)) (.stop)) (.stop)),(12,.first 0 (rg [1,20]) []<| .first 1 (rg [2,20]) []<| .fork 2 (.first 3 (rg [4,20]) []<| .first 4 (rg [5,20]) []<| .first 5 (rg [6,20]) []<| .first 6 (rg [7,20]) []<| .first 7 (rg [8,20]) []<| .first 8 [9,12,13,14,17,18,19] [10,11,15,16]<| .first 9 [12,13,14,17,18,19] [10,11,15,16]<| .first 10 [11,12,13,14,17,18,19] [15,16]<| .first 11 [12,13,14,17,18,19] [15,16]<| .first 12 [13,14,17,18,19] [15,16]<| .first 13 [14,17,18,19] [15,16]<| .first 14 [17,18,19] [15,16]<| .first 15 [16,17,18,19] []<| .first 16 [17,18,19] []<| .first 17 [18,19] []<| .first 18 [19] []<| .first 19 [] []<| .done) (.stop))]}
noncomputable def fc88:FCfg:={par:=[.cst false],inn:=[(9,some ([1,2,3,4,5,6,7,18,19,25,26,27],[1,2,3,5,7])),(10,some ([1,2,3,4,5,7,8,18,19,25,26,27],[1,2,3,5,7,8])),(12,some ([1,2,3,4,5,18,19,25,26,27],[1,2,3,5])),(13,some ([1,2,3,18,19],[1,2,3])),(14,some ([2,3],[2,3]))],out:=[(1,some ([1,2,3],[1,2,3])),(10,some ([1,2,3,4,5,18,19,25,26,27,75],[1,2,3,5]))],loopK:=[(3,([1,2,3,18,19],[1,2,3])),(7,([1,2,3,4,5,18,19,25,26,27],[1,2,3,5]))],frz:=[],sch:=[(1,.first 0 [1,6,8] [2,3,4,5,7]<| .first 2 [3,4,5,6,8] [1,7]<| .first 3 [4,5,6,8] [1,7]<| .first 4 [5,6,8] [1,7]<| .fork 1 (.fork 5 (.fork 6 (.fork 7 (.fork 8 (.done) (.stop)) (.stop)) (.fork 7 (.fork 6 (.fork 8 (.done) (.stop)) (.stop)) (.stop))) (.fork 7 (.fork 5 (.fork 6 (.fork 8 (.done) (.stop)) (.stop)) (.stop)) (.stop))) (.fork 5 (.fork 1 (.fork 6 (.fork 7 (.fork 8 (.done) (.stop)) (.stop)) (.fork 7 (.fork 6 (.fork 8 (.done) (.stop)) (.stop)) (.stop))) (.fork 7 (.fork 1 (.fork 6 (.fork 8 (.done) (.stop)) (.stop)) (.stop)) (.stop))) (.fork 7 (.fork 1 (.fork 5 (.fork 6 (.fork 8 (.done) (.stop)) (.stop)) (.stop)) (.fork 5 (.fork 1 (.fork 6 (.fork 8 (.done) (.stop)) (.stop)) (.stop)) (.stop))) (.stop))))]}
noncomputable def fc89:FCfg:={par:=[.cst false,.cst false],inn:=[(7,some ([1,2,5,10,11],[2,5])),(8,some ([5],[5]))],out:=[(5,some ([1,2,5,6,10,11,24],[2,5]))],loopK:=[(3,([1,2,5,10,11],[2,5]))],frz:=[],sch:=[]}
noncomputable def fc91:FCfg:={par:=[.cst false,.cst false,.cst false],inn:=[],out:=[],loopK:=[],frz:=[],sch:=[]}
noncomputable def fc94:FCfg:={par:=[.cst false,.cst false,.cst false],inn:=[],out:=[(1,some ([6],[]))],loopK:=[],frz:=[],sch:=[]}
noncomputable def fc98:FCfg:={par:=[.cst false,.cst false,.cst false],inn:=[],out:=[(1,some ([6],[]))],loopK:=[],frz:=[],sch:=[]}
noncomputable def fc103:FCfg:={par:=[.cst false,.cst false],inn:=[],out:=[],loopK:=[],frz:=[],sch:=[]}
noncomputable def fc104:FCfg:={par:=[.cst false,.cst false],inn:=[],out:=[],loopK:=[],frz:=[],sch:=[]}
noncomputable def fc107:FCfg:={par:=[.cst false],inn:=[(2,some ([1,3],[1,3])),(5,some ([3,5,11,12,13],[3,5])),(7,some ([3],[3])),(14,some ([3,6,7,8,28,29,33,34],[3,6,8])),(16,some ([3,6,7,28,29,33,34],[3,6])),(17,some ([3,6,28,29],[3,6])),(18,some ([6],[6]))],out:=[(5,some ([3,11,12,13],[3])),(14,some ([3,6,7,8,28,29,33,34,47],[3,6,8])),(15,some ([3,6,7,28,29,33,34],[3,6]))],loopK:=[(3,([3,11,12,13],[3])),(9,([3,6,28,29],[3,6])),(12,([3,6,7,28,29,33,34],[3,6]))],frz:=[2],sch:=[(5,.first 1 [2,3,4,5,6] [0]<| .first 2 [3,4,5,6] [0]<| .first 0 [5,6] [3,4]<| .fork 3 (.fork 4 (.fork 5 (.fork 6 (.done) (.stop)) (.stop)) (.stop)) (.stop)),(15,.first 0 [9,10] (rg [1,9])<| .first 1 [9,10] (rg [2,9])<| .first 2 [4,5,8,9,10] [3,6,7]<| .first 3 [4,5,8,9,10] [6,7]<| .first 6 [7,8,9,10] [4,5]<| .first 4 [5,8,9,10] [7]<| .first 5 [8,9,10] [7]<| .fork 7 (.fork 8 (.first 9 [10] []<| .fork 10 (.done) (.stop)) (.stop)) (.stop))]}
noncomputable def fc109:FCfg:={par:=[.cst false,.cst false,.cst false],inn:=[],out:=[(1,some ([6],[]))],loopK:=[],frz:=[],sch:=[]}
noncomputable def fc110:FCfg:={par:=[.cst false,.cst false],inn:=[],out:=[],loopK:=[],frz:=[],sch:=[]}
noncomputable def fc111:FCfg:={par:=[.cst false,.cst false],inn:=[(10,some ([1],[]))],out:=[],loopK:=[(5,([0,1,5],[]))],frz:=[],sch:=[]}
noncomputable def fc112:FCfg:={par:=[.cut 4,.cst false,.cst false],inn:=[(6,some ([1,8],[20])),(7,some ([1,8],[20]))],out:=[],loopK:=[],frz:=[],sch:=[]}
noncomputable def fc113:FCfg:={par:=[.cst false],inn:=[(4,some ([0,3,4],[3])),(6,some ([3],[3]))],out:=[],loopK:=[(3,([0,3,4],[3]))],frz:=[],sch:=[]}
noncomputable def fc114:FCfg:={par:=[.cst false],inn:=[(4,some ([0,3,4],[3])),(6,some ([3],[3]))],out:=[],loopK:=[(3,([0,3,4],[3]))],frz:=[],sch:=[]}
noncomputable def fc115:FCfg:={par:=[.cst false,.cst false],inn:=[(8,some ([],[]))],out:=[(6,some ([0,1,5,26],[]))],loopK:=[(4,([0,1,5],[]))],frz:=[],sch:=[(6,.first 0 [2,3,8,9] [1,4,5,6,7]<| .first 1 [2,3,8,9] [4,5,6,7]<| .first 2 [3,8,9] [4,5,6,7]<| .first 3 [8,9] [4,5,6,7]<| .first 4 [6,7,8,9] [5]<| .first 5 [6,7,8,9] []<| .first 6 [7,8,9] []<| .first 7 [8,9] []<| .fork 8 (.first 9 [] []<| .done) (.stop))]}
noncomputable def fc116:FCfg:={par:=[.cst false,.cst false],inn:=[(8,some ([],[]))],out:=[(6,some ([0,1,5,26],[]))],loopK:=[(4,([0,1,5],[]))],frz:=[],sch:=[(6,.first 0 [2,3,8,9] [1,4,5,6,7]<| .first 1 [2,3,8,9] [4,5,6,7]<| .first 2 [3,8,9] [4,5,6,7]<| .first 3 [8,9] [4,5,6,7]<| .first 4 [6,7,8,9] [5]<| .first 5 [6,7,8,9] []<| .first 6 [7,8,9] []<| .first 7 [8,9] []<| .fork 8 (.first 9 [] []<| .done) (.stop))]}
noncomputable def fc117:FCfg:={par:=[.cst false],inn:=[],out:=[],loopK:=[],frz:=[],sch:=[]}
noncomputable def fc131:FCfg:={par:=[.cst false,.cst false],inn:=[],out:=[],loopK:=[],frz:=[],sch:=[]}
noncomputable def fc134:FCfg:={par:=[.cst false],inn:=[(4,some ([0,3,4],[3])),(6,some ([3],[3]))],out:=[],loopK:=[(3,([0,3,4],[3]))],frz:=[],sch:=[]}
noncomputable def fc171:FCfg:={par:=[.cut 4],inn:=[(5,some ([0,3],[])),(13,some ([],[]))],out:=[(6,some ([0,3,49],[])),(11,some ([0,3,4,69],[]))],loopK:=[(4,([0,3],[])),(9,([0,3,4],[]))],frz:=[],sch:=[(6,.first 0 (rg [1,4,5,8,12,30]) [4,8,9,10,11]<| .first 1 (rg [2,4,5,8,12,30]) [4,8,9,10,11]<| .first 2 (rg [3,4,5,8,12,30]) [4,8,9,10,11]<| .first 3 (rg [5,8,12,30]) [4,8,9,10,11]<| .first 4 (rg [5,8,12,30]) [8,9,10,11]<| .first 5 (rg [6,8,12,30]) [8,9,10,11]<| .first 6 (rg [7,8,12,30]) [8,9,10,11]<| .first 7 (rg [12,30]) [8,9,10,11]<| .first 8 (rg [9,30]) []<| .first 9 (rg [10,30]) []<| .first 10 (rg [11,30]) []<| .first 11 (rg [12,30]) []<| .fork 12 (.first 13 (rg [14,30]) []<| .first 14 (rg [15,30]) []<| .first 15 [16,17,18,20,21,22,27,28,29] [19,23,24,25,26]<| .first 16 [17,18,20,21,22,27,28,29] [19,23,24,25,26]<| .first 17 [18,20,21,22,27,28,29] [19,23,24,25,26]<| .first 18 [20,21,22,27,28,29] [19,23,24,25,26]<| .first 19 [20,21,22,27,28,29] [23,24,25,26]<| .first 20 [21,22,27,28,29] [23,24,25,26]<| .first 21 [22,27,28,29] [23,24,25,26]<| .first 22 [27,28,29] [23,24,25,26]<| .first 23 (rg [24,30]) []<| .first 24 [25,26,27,28,29] []<| .first 25 [26,27,28,29] []<| .first 26 [27,28,29] []<| .fork 27 (.first 28 [29] []<| .first 29 [] []<| .done) (.stop)) (.stop)),(11,.first 0 [1,2,3,5,6,14] (rg [4,5,7,14])<| .first 1 [2,3,5,6,14] (rg [4,5,7,14])<| .first 2 [3,5,6,14] (rg [4,5,7,14])<| .first 3 [5,6,14] (rg [4,5,7,14])<| .first 4 [5,6,14] (rg [7,14])<| .first 5 [6,14] (rg [7,14])<| .first 6 [14] (rg [7,14])<| .first 7 [8,9,10,12,13,14] [11]<| .first 8 [9,10,12,13,14] [11]<| .first 9 [10,12,13,14] [11]<| .first 10 [12,13,14] [11]<| .first 11 [12,13,14] []<| .first 12 [13,14] []<| .first 13 [14] []<| .first 14 [] []<| .done)]}
noncomputable def fc172:FCfg:={par:=[.cst false],inn:=[(8,some ([],[]))],out:=[(1,some ([0,16],[])),(6,some ([0,3,34],[]))],loopK:=[(4,([0,3],[]))],frz:=[],sch:=[]}
noncomputable def fc173:FCfg:={par:=[.cut 4,.cst false],inn:=[(8,some ([6],[6]))],out:=[(5,some ([0,1,6,7,26],[6])),(7,some ([0,1,6,7],[6]))],loopK:=[(3,([0,1,6,7],[6]))],frz:=[],sch:=[(5,.first 0 [2,3,10,11] [1,4,5,6,7,8,9]<| .first 1 [2,3,10,11] [4,5,6,7,8,9]<| .first 2 [3,10,11] [4,5,6,7,8,9]<| .first 3 [10,11] [4,5,6,7,8,9]<| .first 4 (rg [5,12]) []<| .first 5 [6,7,8,9,10,11] []<| .first 6 [7,8,9,10,11] []<| .first 7 [8,9,10,11] []<| .first 8 [9,10,11] []<| .first 9 [10,11] []<| .fork 10 (.first 11 [] []<| .done) (.stop)),(7,.first 0 [12,13] (rg [1,12])<| .first 1 (rg [2,5,9,14]) [5,6,7,8]<| .first 2 [3,4,9,10,11,12,13] [5,6,7,8]<| .first 3 [4,9,10,11,12,13] [5,6,7,8]<| .first 4 [9,10,11,12,13] [5,6,7,8]<| .first 5 (rg [7,14]) [6]<| .first 6 (rg [7,14]) []<| .first 7 (rg [8,14]) []<| .first 8 [9,10,11,12,13] []<| .first 9 [10,11,12,13] []<| .first 10 [11,12,13] []<| .fork 11 (.fork 12 (.fork 13 (.done) (.stop)) (.stop)) (.stop))]}
noncomputable def fc174:FCfg:={par:=[.cst false],inn:=[(9,some ([0,3],[])),(11,some ([0,3,5],[])),(13,some ([0,3,5,6],[6])),(14,some ([0,3,5,6,7],[6,7])),(15,some ([0,3,5,6,7,8],[6,7,8])),(22,some ([0],[]))],out:=[(2,some ([0,3,17],[])),(15,some ([0,3,5,6,7,66],[6,7])),(20,some ([0,3,5,6,7,9,95],[6,7]))],loopK:=[(5,([0,3,4],[])),(10,([0,3,5],[])),(18,([0,3,5,6,7,9],[6,7]))],frz:=[],sch:=[(20,.first 0 (rg [1,2,3,4,5,22]) [2,4]<| .first 1 (rg [3,4,5,22]) [2,4]<| .first 2 (rg [3,4,5,22]) [4]<| .first 3 (rg [5,22]) [4]<| .first 4 (rg [5,22]) []<| .first 5 (rg [6,22]) []<| .first 6 (rg [7,22]) []<| .first 7 [20,21] (rg [8,20])<| .first 8 [20,21] (rg [9,20])<| .first 9 [11,12,20,21] (rg [10,11,13,20])<| .first 10 [11,12,20,21] (rg [13,20])<| .first 11 [12,20,21] (rg [13,20])<| .first 12 [20,21] (rg [13,20])<| .first 13 [18,19,20,21] [14,15,16,17]<| .first 14 [15,17,18,19,20,21] [16]<| .first 15 [17,18,19,20,21] [16]<| .first 16 [17,18,19,20,21] []<| .first 17 [18,19,20,21] []<| .first 18 [19,20,21] []<| .first 19 [20,21] []<| .fork 20 (.first 21 [] []<| .done) (.stop))]}
noncomputable def fc177:FCfg:={par:=[.ptr [.imm,.imm,.imm,.imm,.sh,.imm],.mv],inn:=[(2,some ([0,1],[0,1])),(7,some ([0],[0])),(8,some ([0],[0])),(13,some ([],[0])),(14,some ([0,1,53,54,55],[0,1,53])),(15,some ([],[0]))],out:=[],loopK:=[(10,([0,1,53,54,55],[0,1,53]))],frz:=[],sch:=[]}
noncomputable def fc178:FCfg:={par:=[.cst false,.cst false],inn:=[],out:=[],loopK:=[],frz:=[],sch:=[]}
noncomputable def fc179:FCfg:={par:=[.cst false],inn:=[(8,some ([],[]))],out:=[(1,some ([0,21],[])),(6,some ([0,3,49],[]))],loopK:=[(4,([0,3],[]))],frz:=[],sch:=[]}
noncomputable def fc180:FCfg:={par:=[.cst false,.cst false],inn:=[(9,some ([6],[6]))],out:=[],loopK:=[(3,([0,6,10,11,12],[6]))],frz:=[],sch:=[]}
noncomputable def fc181:FCfg:={par:=[.cst false],inn:=[(15,some ([0,3,23,24],[])),(16,some ([0],[]))],out:=[(2,some ([0,3,21],[])),(7,some ([0,3,4,5,6,7,23,24],[5,6,7])),(8,some ([0,3,4,5,6,23,24,59],[5,6])),(13,some ([0,3,4,5,6,8,23,24,88],[5,6]))],loopK:=[(5,([0,3,23,24],[])),(11,([0,3,4,5,6,8,23,24],[5,6]))],frz:=[],sch:=[(7,.first 0 [2,3,21,22,23] (rg [1,2,4,21])<| .first 1 [2,3,21,22,23] (rg [4,21])<| .first 2 [3,21,22,23] (rg [4,21])<| .first 3 [21,22,23] (rg [4,21])<| .first 4 [9,10,22,23] (rg [5,9,11,22])<| .first 5 [6,8,9,10,22,23] (rg [7,8,11,22])<| .first 6 [8,9,10,22,23] (rg [7,8,11,22])<| .first 7 [8,9,10,22,23] (rg [11,22])<| .first 8 [9,10,22,23] (rg [11,22])<| .first 9 [10,22,23] (rg [11,22])<| .first 10 [22,23] (rg [11,22])<| .first 11 [16,17,23] (rg [12,16,18,23])<| .first 12 [13,15,16,17,23] [14,18,19,20,21,22]<| .first 13 [15,16,17,23] [14,18,19,20,21,22]<| .first 14 [15,16,17,23] [18,19,20,21,22]<| .first 15 [16,17,23] [18,19,20,21,22]<| .first 16 [17,23] [18,19,20,21,22]<| .first 17 [23] [18,19,20,21,22]<| .fork 18 (.fork 19 (.fork 20 (.fork 21 (.fork 22 (.fork 23 (.done) (.stop)) (.stop)) (.stop)) (.stop)) (.fork 20 (.fork 19 (.fork 21 (.fork 22 (.fork 23 (.done) (.stop)) (.stop)) (.stop)) (.stop)) (.stop))) (.fork 19 (.fork 18 (.fork 20 (.fork 21 (.fork 22 (.fork 23 (.done) (.stop)) (.stop)) (.stop)) (.stop)) (.fork 20 (.fork 18 (.fork 21 (.fork 22 (.fork 23 (.done) (.stop)) (.stop)) (.stop)) (.stop)) (.stop))) (.fork 20 (.fork 18 (.fork 19 (.fork 21 (.fork 22 (.fork 23 (.done) (.stop)) (.stop)) (.stop)) (.stop)) (.fork 19 (.fork 18 (.fork 21 (.fork 22 (.fork 23 (.done) (.stop)) (.stop)) (.stop)) (.stop)) (.stop))) (.stop)))),(13,.first 0 (rg [1,2,3,4,5,22]) [2,4]<| .first 1 (rg [3,4,5,22]) [2,4]<| .first 2 (rg [3,4,5,22]) [4]<| .first 3 (rg [5,22]) [4]<| .first 4 (rg [5,22]) []<| .first 5 (rg [6,22]) []<| .first 6 (rg [7,22]) []<| .first 7 [20,21] (rg [8,20])<| .first 8 [20,21] (rg [9,20])<| .first 9 [11,12,20,21] (rg [10,11,13,20])<| .first 10 [11,12,20,21] (rg [13,20])<| .first 11 [12,20,21] (rg [13,20])<| .first 12 [20,21] (rg [13,20])<| .first 13 [18,19,20,21] [14,15,16,17]<| .first 14 [15,17,18,19,20,21] [16]<| .first 15 [17,18,19,20,21] [16]<| .first 16 [17,18,19,20,21] []<| .first 17 [18,19,20,21] []<| .first 18 [19,20,21] []<| .first 19 [20,21] []<| .fork 20 (.first 21 [] []<| .done) (.stop))]}
noncomputable def fc182:FCfg:={par:=[.cst false,.cst false],inn:=[],out:=[(1,some ([5],[5]))],loopK:=[],frz:=[],sch:=[(1,.first 0 [1,8,9,10,11,12,13] [2,3,4,5,6,7]<| .first 1 (rg [8,14]) [2,3,4,5,6,7]<| .first 2 (rg [3,4,5,14]) [4]<| .first 3 (rg [5,14]) [4]<| .first 4 (rg [5,14]) []<| .first 5 (rg [6,14]) []<| .first 6 (rg [7,14]) []<| .first 7 (rg [8,14]) []<| .fork 8 (.first 9 [10,11,12,13] []<| .first 10 [12,13] [11]<| .first 11 [13] [12]<| .fork 12 (.fork 13 (.done) (.stop)) (.stop)) (.stop))]}
noncomputable def fc183:FCfg:={par:=[.cst false,.cst false,.cst false],inn:=[],out:=[(1,some ([6],[]))],loopK:=[],frz:=[],sch:=[]}
noncomputable def fc194:FCfg:={par:=[.cst false,.cst false],inn:=[(7,some ([],[]))],out:=[],loopK:=[(2,([0,1,7,8],[]))],frz:=[],sch:=[]}
noncomputable def fc195:FCfg:={par:=[.cst false,.cst false],inn:=[(7,some ([],[]))],out:=[],loopK:=[(2,([0,1,7,8],[]))],frz:=[],sch:=[]}
noncomputable def fc196:FCfg:={par:=[.cst false],inn:=[(8,some ([3],[3]))],out:=[],loopK:=[(3,([0,3,8,9,10],[3]))],frz:=[],sch:=[]}
noncomputable def fc197:FCfg:={par:=[.cst false,.cst false],inn:=[],out:=[],loopK:=[],frz:=[],sch:=[]}
noncomputable def fc198:FCfg:={par:=[.cst false],inn:=[],out:=[(1,some ([4],[]))],loopK:=[],frz:=[],sch:=[(1,.first 0 [2,3,5,6] [1,4]<| .first 1 [2,3,5,6] [4]<| .first 2 [3,5,6] [4]<| .first 3 [5,6] [4]<| .first 4 [5,6] []<| .fork 5 (.fork 6 (.done) (.stop)) (.stop))]}
noncomputable def fc199:FCfg:={par:=[.cst false,.cst false],inn:=[],out:=[],loopK:=[],frz:=[],sch:=[]}
noncomputable def fc200:FCfg:={par:=[.cst false],inn:=[],out:=[],loopK:=[],frz:=[],sch:=[]}
noncomputable def fc201:FCfg:={par:=[.cst false,.cst false],inn:=[],out:=[],loopK:=[],frz:=[],sch:=[]}
noncomputable def fc202:FCfg:={par:=[.cut 4],inn:=[(7,some ([3],[6]))],out:=[(5,some ([0,3,4],[6])),(6,some ([0,3,4],[6]))],loopK:=[(3,([0,3,4],[6]))],frz:=[],sch:=[(5,.first 0 [10,11,12] (rg [1,10])<| .first 1 [2,3,4,9,10,11,12] [5,6,7,8]<| .first 5 (rg [7,13]) [2,3,4,6]<| .first 6 (rg [7,13]) [2,3,4]<| .first 2 [3,4,9,10,11,12] [7,8]<| .first 3 [4,9,10,11,12] [7,8]<| .first 4 [9,10,11,12] [7,8]<| .fork 7 (.fork 8 (.fork 9 (.first 10 [11,12] []<| .first 11 [12] []<| .fork 12 (.done) (.stop)) (.stop)) (.stop)) (.stop)),(6,.first 0 [10,11,12] (rg [1,10])<| .first 1 [2,3,4,9,10,11,12] [5,6,7,8]<| .first 5 (rg [7,13]) [2,3,4,6]<| .first 6 (rg [7,13]) [2,3,4]<| .first 2 [3,4,9,10,11,12] [7,8]<| .first 3 [4,9,10,11,12] [7,8]<| .first 4 [9,10,11,12] [7,8]<| .fork 7 (.fork 8 (.fork 9 (.first 10 [11,12] []<| .first 11 [12] []<| .fork 12 (.done) (.stop)) (.stop)) (.stop)) (.stop))]}
noncomputable def fc203:FCfg:={par:=[.ptr [.imm,.sh,.imm,.sh,.imm,.imm,.imm]],inn:=[(2,some ([0],[0])),(6,some ([0],[0])),(8,some ([0],[0])),(15,some ([0,3,4,5],[0,3])),(18,some ([],[0]))],out:=[(2,some ([0,21],[0])),(4,some ([0,35],[0])),(9,some ([0,3],[0,3])),(13,some ([0,3,4],[0,3])),(15,some ([0,3,4,5],[0,3]))],loopK:=[(11,([0,3,4],[0,3]))],frz:=[],sch:=[(2,.first 0 [1,2,3,8] [4,5,6,7]<| .first 1 [2,3,8] [4,5,6,7]<| .first 2 [3,8] [4,5,6,7]<| .first 3 [8] [4,5,6,7]<| .first 4 [5,6,7,8] []<| .first 5 [6,7,8] []<| .first 6 [7,8] []<| .first 7 [8] []<| .first 8 [] []<| .done),(4,.first 0 [1,2,3,4,13] (rg [5,13])<| .first 1 [2,3,4,13] (rg [5,13])<| .first 2 [3,4,13] (rg [5,13])<| .first 3 [4,13] (rg [5,13])<| .first 4 [13] (rg [5,13])<| .first 5 (rg [6,14]) []<| .first 6 (rg [7,14]) []<| .first 7 (rg [8,14]) []<| .first 8 [9,10,11,12,13] []<| .first 9 [10,11,12,13] []<| .first 10 [11,12,13] []<| .first 11 [12,13] []<| .first 12 [13] []<| .first 13 [] []<| .done),(9,.first 0 [1,2,3,8,9] [4,5,6,7]<| .first 1 [2,3,8,9] [4,5,6,7]<| .first 2 [3,8,9] [4,5,6,7]<| .first 3 [8,9] [4,5,6,7]<| .first 4 [5,6,7,8,9] []<| .first 5 [6,7,8,9] []<| .first 6 [7,8,9] []<| .first 7 [8,9] []<| .fork 8 (.fork 9 (.done) (.stop)) (.stop)),(13,.first 0 [11,12,13] (rg [1,11])<| .first 1 [2,3,4,10,11,12,13] [5,6,7,8,9]<| .first 5 (rg [7,14]) [2,3,4,6]<| .first 6 (rg [7,14]) [2,3,4]<| .first 7 (rg [8,14]) [2,3,4]<| .first 8 [9,10,11,12,13] [2,3,4]<| .first 2 [3,4,10,11,12,13] [9]<| .first 3 [4,10,11,12,13] [9]<| .first 4 [10,11,12,13] [9]<| .fork 9 (.fork 10 (.first 11 [12,13] []<| .first 12 [13] []<| .fork 13 (.done) (.stop)) (.stop)) (.stop)),(15,.first 0 [12,13,14] (rg [1,12])<| .first 1 [2,3,4,11,12,13,14] [5,6,7,8,9,10]<| .first 2 [3,4,11,12,13,14] [5,6,7,8,9,10]<| .first 3 [4,11,12,13,14] [5,6,7,8,9,10]<| .first 4 [11,12,13,14] [5,6,7,8,9,10]<| .first 5 (rg [6,15]) []<| .first 6 (rg [7,15]) []<| .first 7 (rg [8,15]) []<| .first 8 (rg [9,15]) []<| .first 9 [10,11,12,13,14] []<| .first 10 [11,12,13,14] []<| .fork 11 (.first 12 [13,14] []<| .first 13 [14] []<| .fork 14 (.done) (.stop)) (.stop))]}
noncomputable def fc204:FCfg:={par:=[.cst false],inn:=[(3,some ([1,2,3],[1,2,3])),(4,some ([2,3],[2,3]))],out:=[],loopK:=[],frz:=[],sch:=[]}
noncomputable def fc205:FCfg:={par:=[.cst false],inn:=[(3,some ([1,2,3],[1,2,3])),(4,some ([2,3],[2,3]))],out:=[],loopK:=[],frz:=[],sch:=[]}
noncomputable def fc206:FCfg:={par:=[.cst false,.cst false],inn:=[],out:=[],loopK:=[],frz:=[],sch:=[]}
noncomputable def fc207:FCfg:={par:=[.cst false,.cst false],inn:=[],out:=[],loopK:=[],frz:=[],sch:=[]}
noncomputable def fc218:FCfg:={par:=[.cst false,.cst false],inn:=[],out:=[],loopK:=[],frz:=[],sch:=[]}
noncomputable def fc219:FCfg:={par:=[.cst false,.cst false],inn:=[(6,some ([],[]))],out:=[],loopK:=[(2,([0,1,5],[]))],frz:=[],sch:=[]}
noncomputable def fc222:FCfg:={par:=[.cst false,.cst false],inn:=[],out:=[],loopK:=[],frz:=[],sch:=[]}
noncomputable def fc268:FCfg:={par:=[.cst false],inn:=[],out:=[(1,some ([2],[]))],loopK:=[],frz:=[],sch:=[]}
noncomputable def fc269:FCfg:={par:=[.cst false],inn:=[],out:=[(1,some ([2],[]))],loopK:=[],frz:=[],sch:=[]}
noncomputable def fc270:FCfg:={par:=[.cst false],inn:=[],out:=[(1,some ([2],[]))],loopK:=[],frz:=[],sch:=[]}
noncomputable def fc271:FCfg:={par:=[.cst false,.cst false,.cst false],inn:=[],out:=[(1,some ([6],[]))],loopK:=[],frz:=[],sch:=[(1,.first 0 (rg [3,36]) [1,2]<| .first 1 (rg [3,36]) [2]<| .first 2 (rg [3,36]) []<| .fork 3 (.first 4 (rg [5,36]) []<| .first 5 (rg [6,36]) []<| .first 6 (rg [7,8,18,36]) (rg [8,18])<| .first 7 (rg [18,36]) (rg [8,18])<| .first 8 (rg [9,10,12,13,17,36]) [10,11,13,14,15,16]<| .first 9 (rg [12,13,17,36]) [10,11,13,14,15,16]<| .first 10 (rg [11,13,17,36]) [13,14,15,16]<| .first 11 (rg [12,13,17,36]) [13,14,15,16]<| .first 13 (rg [14,15,17,36]) [12,15,16]<| .first 14 (rg [17,36]) [12,15,16]<| .first 15 (rg [16,36]) [12]<| .first 16 (rg [17,36]) [12]<| .fork 12 (.fork 17 (.fork 18 (.first 19 (rg [20,36]) []<| .first 20 (rg [21,36]) []<| .first 21 [22,33,34,35] (rg [23,33])<| .first 22 [33,34,35] (rg [23,33])<| .first 23 [24,27,32,33,34,35] [25,26,28,29,30,31]<| .first 24 [27,32,33,34,35] [25,26,28,29,30,31]<| .first 25 [26,27,32,33,34,35] [28,29,30,31]<| .first 26 [27,32,33,34,35] [28,29,30,31]<| .first 28 [29,32,33,34,35] [27,30,31]<| .first 29 [32,33,34,35] [27,30,31]<| .first 30 [31,32,33,34,35] [27]<| .first 31 [32,33,34,35] [27]<| .fork 27 (.fork 32 (.fork 33 (.first 34 [35] []<| .fork 35 (.done) (.stop)) (.stop)) (.stop)) (.stop)) (.stop)) (.stop)) (.stop)) (.stop))]}
noncomputable def fc272:FCfg:={par:=[.cst false,.cst false,.cst false,.cst false],inn:=[],out:=[(1,some ([8],[]))],loopK:=[],frz:=[],sch:=[]}
noncomputable def fc273:FCfg:={par:=[.cst false],inn:=[(6,some ([0,3,4,5],[5])),(7,some ([3],[]))],out:=[(6,some ([0,3,4],[]))],loopK:=[(3,([0,3,4],[]))],frz:=[],sch:=[(6,.first 0 [18,19] (rg [1,18])<| .first 1 [3,4,5,8,17,18,19] (rg [2,3,6,8,9,17])<| .first 2 [3,4,5,8,17,18,19] (rg [6,8,9,17])<| .first 3 [4,5,8,17,18,19] (rg [6,8,9,17])<| .first 4 [5,8,17,18,19] (rg [6,8,9,17])<| .first 5 [8,17,18,19] (rg [6,8,9,17])<| .first 6 [7,8,17,18,19] (rg [9,17])<| .first 7 [8,17,18,19] (rg [9,17])<| .first 8 [17,18,19] (rg [9,17])<| .first 9 [11,12,13,16,17,18,19] [10,14,15]<| .first 10 [11,12,13,16,17,18,19] [14,15]<| .first 11 [12,13,16,17,18,19] [14,15]<| .first 12 [13,16,17,18,19] [14,15]<| .first 13 [16,17,18,19] [14,15]<| .first 14 [15,16,17,18,19] []<| .first 15 [16,17,18,19] []<| .first 16 [17,18,19] []<| .first 17 [18,19] []<| .first 18 [19] []<| .fork 19 (.done) (.stop))]}
noncomputable def fc275:FCfg:={par:=[.cst false,.cst false],inn:=[(7,some ([],[]))],out:=[(4,some ([0,3,5,7,8,16],[3]))],loopK:=[(2,([0,3,7,8],[3]))],frz:=[],sch:=[(4,.first 0 [5] [1,2,3,4]<| .first 1 [3,4,5] [2]<| .first 2 [3,4,5] []<| .first 3 [4,5] []<| .first 4 [5] []<| .first 5 [] []<| .done)]}
noncomputable def fc276:FCfg:={par:=[.cst false],inn:=[(4,some ([4,5,6,7],[4])),(7,some ([],[]))],out:=[],loopK:=[(2,([5,6,7],[]))],frz:=[],sch:=[]}
noncomputable def fc277:FCfg:={par:=[.cst false,.cst false,.cst false],inn:=[],out:=[(1,some ([6],[]))],loopK:=[],frz:=[],sch:=[]}
noncomputable def fc278:FCfg:={par:=[.cst false,.cst false,.cst false,.cst false],inn:=[],out:=[(1,some ([8],[]))],loopK:=[],frz:=[],sch:=[]}
noncomputable def fc279:FCfg:={par:=[.cst false],inn:=[(5,some ([0,3,4,5,7,8,9],[5])),(6,some ([0,3,5,6,7,8,9],[5,6])),(8,some ([3],[]))],out:=[],loopK:=[(3,([0,3,7,8,9],[]))],frz:=[],sch:=[]}
noncomputable def fc280:FCfg:={par:=[.cst false],inn:=[],out:=[],loopK:=[],frz:=[],sch:=[]}
noncomputable def fc285:FCfg:={par:=[.cst false,.cst false],inn:=[(7,some ([],[]))],out:=[],loopK:=[(2,([0,1,7,8],[]))],frz:=[],sch:=[]}
noncomputable def fc286:FCfg:={par:=[.cst false,.cst false],inn:=[(7,some ([],[]))],out:=[(4,some ([0,3,5,7,8,16],[3]))],loopK:=[(2,([0,3,7,8],[3]))],frz:=[],sch:=[(4,.first 0 [5] [1,2,3,4]<| .first 1 [3,4,5] [2]<| .first 2 [3,4,5] []<| .first 3 [4,5] []<| .first 4 [5] []<| .first 5 [] []<| .done)]}
noncomputable def fc287:FCfg:={par:=[.cut 4,.cst false],inn:=[(5,some ([0,1,5,6,7],[5])),(11,some ([0,1,5,6,7,8],[5])),(13,some ([5],[5]))],out:=[(10,some ([0,1,5,6,7,8,9],[5])),(11,some ([0,1,5,6,7,63],[5]))],loopK:=[(4,([0,1,5,6,7],[5])),(8,([0,1,5,6,7,8,9],[5]))],frz:=[],sch:=[(10,.first 0 (rg [1,25]) []<| .first 1 (rg [2,25]) []<| .first 2 [3,4,5,7,8,9,22,23,24] (rg [6,7,10,22])<| .first 3 [4,5,7,8,9,22,23,24] (rg [6,7,10,22])<| .first 4 [5,7,8,9,22,23,24] (rg [6,7,10,22])<| .first 5 [7,8,9,22,23,24] (rg [6,7,10,22])<| .first 6 [7,8,9,22,23,24] (rg [10,22])<| .first 7 [8,9,22,23,24] (rg [10,22])<| .first 8 [9,22,23,24] (rg [10,22])<| .first 9 [22,23,24] (rg [10,22])<| .first 10 [12,13,22,23,24] (rg [11,12,14,22])<| .first 11 [12,13,22,23,24] (rg [14,22])<| .first 12 [13,22,23,24] (rg [14,22])<| .first 13 [22,23,24] (rg [14,22])<| .first 14 [20,21,22,23,24] [15,16,17,18,19]<| .first 15 [16,19,20,21,22,23,24] [17,18]<| .first 16 (rg [19,25]) [17,18]<| .first 17 (rg [18,25]) []<| .first 18 (rg [19,25]) []<| .first 19 [20,21,22,23,24] []<| .first 20 [21,22,23,24] []<| .first 21 [22,23,24] []<| .fork 22 (.first 23 [24] []<| .fork 24 (.done) (.stop)) (.stop))]}
noncomputable def fc288:FCfg:={par:=[.cut 4,.cst false],inn:=[(7,some ([],[]))],out:=[(5,some ([0,5,6,29],[5]))],loopK:=[(3,([0,5,6],[5]))],frz:=[],sch:=[(5,.first 0 [13] (rg [1,13])<| .first 1 [3,4,13] (rg [2,3,5,13])<| .first 2 [3,4,13] (rg [5,13])<| .first 3 [4,13] (rg [5,13])<| .first 4 [13] (rg [5,13])<| .first 5 [11,12,13] [6,7,8,9,10]<| .first 6 [7,10,11,12,13] [8,9]<| .first 7 [10,11,12,13] [8,9]<| .first 8 [9,10,11,12,13] []<| .first 9 [10,11,12,13] []<| .first 10 [11,12,13] []<| .first 11 [12,13] []<| .first 12 [13] []<| .fork 13 (.done) (.stop))]}
noncomputable def fc289:FCfg:={par:=[.cut 2,.cst false],inn:=[(4,some ([0,1,5,6],[5])),(7,some ([5],[5]))],out:=[(5,some ([0,1,5,6,27],[5]))],loopK:=[(3,([0,1,5,6],[5]))],frz:=[],sch:=[]}
noncomputable def fc319:FCfg:={par:=[.cst false,.cst false,.cst false],inn:=[],out:=[],loopK:=[],frz:=[],sch:=[]}
noncomputable def fc320:FCfg:={par:=[.cst false,.cst false,.cst false,.cst false],inn:=[],out:=[(1,some ([8],[]))],loopK:=[],frz:=[],sch:=[(1,.first 0 (rg [3,4,7,23]) [1,2,4,5,6]<| .first 1 (rg [3,4,7,23]) [2,4,5,6]<| .first 2 (rg [3,4,7,23]) [4,5,6]<| .first 4 (rg [7,23]) [3,5,6]<| .first 5 (rg [7,23]) [3,6]<| .first 6 (rg [7,23]) [3]<| .fork 3 (.fork 7 (.first 8 (rg [9,23]) []<| .first 9 (rg [10,23]) []<| .first 10 (rg [11,23]) []<| .first 11 [14,18,19,20,21,22] [12,13,15,16,17]<| .first 12 [14,18,19,20,21,22] [13,15,16,17]<| .first 13 [14,18,19,20,21,22] [15,16,17]<| .first 15 [18,19,20,21,22] [14,16,17]<| .first 16 [18,19,20,21,22] [14,17]<| .first 17 [18,19,20,21,22] [14]<| .fork 14 (.fork 18 (.first 19 [20,21,22] []<| .first 20 [21,22] []<| .first 21 [22] []<| .fork 22 (.done) (.stop)) (.stop)) (.stop)) (.stop)) (.stop))]}
noncomputable def fc321:FCfg:={par:=[.cst false],inn:=[],out:=[(1,some ([2],[]))],loopK:=[],frz:=[],sch:=[]}
noncomputable def fc322:FCfg:={par:=[.cst false,.cst false,.cst false],inn:=[],out:=[],loopK:=[],frz:=[],sch:=[]}
noncomputable def fc323:FCfg:={par:=[.cst false,.cst false,.cst false,.cst false],inn:=[],out:=[(1,some ([8],[]))],loopK:=[],frz:=[],sch:=[(1,.first 0 (rg [3,4,7,23]) [1,2,4,5,6]<| .first 1 (rg [3,4,7,23]) [2,4,5,6]<| .first 2 (rg [3,4,7,23]) [4,5,6]<| .first 4 (rg [7,23]) [3,5,6]<| .first 5 (rg [7,23]) [3,6]<| .first 6 (rg [7,23]) [3]<| .fork 3 (.fork 7 (.first 8 (rg [9,23]) []<| .first 9 (rg [10,23]) []<| .first 10 (rg [11,23]) []<| .first 11 [14,18,19,20,21,22] [12,13,15,16,17]<| .first 12 [14,18,19,20,21,22] [13,15,16,17]<| .first 13 [14,18,19,20,21,22] [15,16,17]<| .first 15 [18,19,20,21,22] [14,16,17]<| .first 16 [18,19,20,21,22] [14,17]<| .first 17 [18,19,20,21,22] [14]<| .fork 14 (.fork 18 (.first 19 [20,21,22] []<| .first 20 [21,22] []<| .first 21 [22] []<| .fork 22 (.done) (.stop)) (.stop)) (.stop)) (.stop)) (.stop))]}
noncomputable def fc325:FCfg:={par:=[.cst false,.cst false,.cst false],inn:=[(8,some ([],[]))],out:=[(6,some ([0,1,2,7,45],[]))],loopK:=[(2,([0,1,2,7],[]))],frz:=[],sch:=[]}
noncomputable def fc326:FCfg:={par:=[.cut 4,.cst false],inn:=[],out:=[],loopK:=[],frz:=[],sch:=[]}
noncomputable def fc327:FCfg:={par:=[.cut 4,.cst false,.cst false],inn:=[],out:=[(1,some ([6],[]))],loopK:=[],frz:=[],sch:=[(1,.first 0 (rg [1,2,4,41]) [2,3]<| .first 1 (rg [4,41]) [2,3]<| .first 2 (rg [3,41]) []<| .first 3 (rg [4,41]) []<| .first 4 (rg [5,41]) []<| .first 5 (rg [6,41]) []<| .first 6 (rg [7,41]) []<| .first 7 (rg [8,41]) []<| .first 8 (rg [9,41]) []<| .first 9 (rg [10,41]) []<| .first 10 (rg [11,12,16,41]) [12,13,14,15]<| .first 11 (rg [16,41]) [12,13,14,15]<| .first 12 (rg [13,41]) []<| .first 13 (rg [14,41]) []<| .first 14 (rg [15,41]) []<| .first 15 (rg [16,41]) []<| .first 16 (rg [17,41]) []<| .first 17 (rg [18,41]) []<| .first 18 (rg [19,41]) []<| .first 19 (rg [20,41]) []<| .first 20 (rg [21,22,24,41]) [22,23]<| .first 21 (rg [24,41]) [22,23]<| .first 22 (rg [23,41]) []<| .first 23 (rg [24,41]) []<| .first 24 (rg [25,41]) []<| .first 25 (rg [26,41]) []<| .first 26 (rg [27,41]) []<| .first 27 (rg [28,41]) []<| .first 28 (rg [29,41]) []<| .first 29 (rg [30,41]) []<| .first 30 [31,36,37,38,39,40] [32,33,34,35]<| .first 31 [36,37,38,39,40] [32,33,34,35]<| .first 32 (rg [33,41]) []<| .first 33 (rg [34,41]) []<| .first 34 (rg [35,41]) []<| .first 35 [36,37,38,39,40] []<| .first 36 [37,38,39,40] []<| .first 37 [38,39,40] []<| .first 38 [39,40] []<| .first 39 [40] []<| .fork 40 (.done) (.stop))]}
noncomputable def fc328:FCfg:={par:=[.cut 2,.cst false,.cst false],inn:=[],out:=[],loopK:=[],frz:=[],sch:=[]}
noncomputable def fc354:FCfg:={par:=[.cst false,.cst false,.cst false],inn:=[],out:=[],loopK:=[],frz:=[],sch:=[]}
noncomputable def fc355:FCfg:={par:=[.cut 2,.cst false,.cst false],inn:=[(8,some ([],[]))],out:=[],loopK:=[(4,([0,1,2,7],[]))],frz:=[],sch:=[]}
noncomputable def fc356:FCfg:={par:=[.cut 2,.cst false,.cst false],inn:=[(8,some ([],[]))],out:=[],loopK:=[(4,([0,1,2,7],[]))],frz:=[],sch:=[]}
noncomputable def fcs:List (Nat×FCfg):=[(6,fc6),(17,fc17),(36,fc36),(37,fc37),(38,fc38),(39,fc39),(41,fc41),(84,fc84),(86,fc86),(87,fc87),(88,fc88),(89,fc89),(91,fc91),(94,fc94),(98,fc98),(103,fc103),(104,fc104),(107,fc107),(109,fc109),(110,fc110),(111,fc111),(112,fc112),(113,fc113),(114,fc114),(115,fc115),(116,fc116),(117,fc117),(131,fc131),(134,fc134),(171,fc171),(172,fc172),(173,fc173),(174,fc174),(177,fc177),(178,fc178),(179,fc179),(180,fc180),(181,fc181),(182,fc182),(183,fc183),(194,fc194),(195,fc195),(196,fc196),(197,fc197),(198,fc198),(199,fc199),(200,fc200),(201,fc201),(202,fc202),(203,fc203),(204,fc204),(205,fc205),(206,fc206),(207,fc207),(218,fc218),(219,fc219),(222,fc222),(268,fc268),(269,fc269),(270,fc270),(271,fc271),(272,fc272),(273,fc273),(275,fc275),(276,fc276),(277,fc277),(278,fc278),(279,fc279),(280,fc280),(285,fc285),(286,fc286),(287,fc287),(288,fc288),(289,fc289),(319,fc319),(320,fc320),(321,fc321),(322,fc322),(323,fc323),(325,fc325),(326,fc326),(327,fc327),(328,fc328),(354,fc354),(355,fc355),(356,fc356)]
noncomputable def ons:List (Nat×Bool):=[(6,true),(17,true),(36,true),(37,true),(38,true),(39,true),(41,true),(84,true),(86,true),(87,true),(88,true),(89,true),(91,true),(94,true),(98,true),(103,true),(104,true),(107,true),(109,true),(110,true),(111,true),(112,true),(113,true),(114,true),(115,true),(116,true),(117,true),(131,true),(134,true),(171,true),(172,true),(173,true),(174,true),(177,true),(178,true),(179,true),(180,true),(181,true),(182,true),(183,true),(194,true),(195,true),(196,true),(197,true),(198,true),(199,true),(200,true),(201,true),(202,true),(203,true),(204,true),(205,true),(206,true),(207,true),(218,true),(219,true),(222,true),(268,true),(269,true),(270,true),(271,true),(272,true),(273,true),(275,true),(276,true),(277,true),(278,true),(279,true),(280,true),(285,true),(286,true),(287,true),(288,true),(289,true),(319,true),(320,true),(321,true),(322,true),(323,true),(325,true),(326,true),(327,true),(328,true),(354,true),(355,true),(356,true)]
noncomputable def cfg:Cfg:=mkCfg ons fcs [(192,some (extCloneN 1 8))] [(61,26)]
theorem c6:cfg.fc 6=fc6:=rfl
instance C6:Cf cfg 6 fc6:=⟨c6⟩
instance Z6:Zf cfg 6:=⟨rfl⟩
theorem z6:(cfg.fc 6).frz=[]:=rfl
theorem c17:cfg.fc 17=fc17:=rfl
instance C17:Cf cfg 17 fc17:=⟨c17⟩
instance Z17:Zf cfg 17:=⟨rfl⟩
theorem c36:cfg.fc 36=fc36:=rfl
instance C36:Cf cfg 36 fc36:=⟨c36⟩
instance Z36:Zf cfg 36:=⟨rfl⟩
theorem c37:cfg.fc 37=fc37:=rfl
instance C37:Cf cfg 37 fc37:=⟨c37⟩
instance Z37:Zf cfg 37:=⟨rfl⟩
theorem c38:cfg.fc 38=fc38:=rfl
instance C38:Cf cfg 38 fc38:=⟨c38⟩
instance Z38:Zf cfg 38:=⟨rfl⟩
theorem c39:cfg.fc 39=fc39:=rfl
instance C39:Cf cfg 39 fc39:=⟨c39⟩
instance Z39:Zf cfg 39:=⟨rfl⟩
theorem c41:cfg.fc 41=fc41:=rfl
instance C41:Cf cfg 41 fc41:=⟨c41⟩
instance Z41:Zf cfg 41:=⟨rfl⟩
theorem c84:cfg.fc 84=fc84:=rfl
instance C84:Cf cfg 84 fc84:=⟨c84⟩
instance Z84:Zf cfg 84:=⟨rfl⟩
theorem z84:(cfg.fc 84).frz=[]:=rfl
theorem c86:cfg.fc 86=fc86:=rfl
instance C86:Cf cfg 86 fc86:=⟨c86⟩
instance Z86:Zf cfg 86:=⟨rfl⟩
theorem c87:cfg.fc 87=fc87:=rfl
instance C87:Cf cfg 87 fc87:=⟨c87⟩
instance Z87:Zf cfg 87:=⟨rfl⟩
theorem z87:(cfg.fc 87).frz=[]:=rfl
theorem c88:cfg.fc 88=fc88:=rfl
instance C88:Cf cfg 88 fc88:=⟨c88⟩
instance Z88:Zf cfg 88:=⟨rfl⟩
theorem z88:(cfg.fc 88).frz=[]:=rfl
theorem c89:cfg.fc 89=fc89:=rfl
instance C89:Cf cfg 89 fc89:=⟨c89⟩
instance Z89:Zf cfg 89:=⟨rfl⟩
theorem c91:cfg.fc 91=fc91:=rfl
instance C91:Cf cfg 91 fc91:=⟨c91⟩
instance Z91:Zf cfg 91:=⟨rfl⟩
theorem c94:cfg.fc 94=fc94:=rfl
instance C94:Cf cfg 94 fc94:=⟨c94⟩
instance Z94:Zf cfg 94:=⟨rfl⟩
theorem c98:cfg.fc 98=fc98:=rfl
instance C98:Cf cfg 98 fc98:=⟨c98⟩
instance Z98:Zf cfg 98:=⟨rfl⟩
theorem c103:cfg.fc 103=fc103:=rfl
instance C103:Cf cfg 103 fc103:=⟨c103⟩
instance Z103:Zf cfg 103:=⟨rfl⟩
theorem c104:cfg.fc 104=fc104:=rfl
instance C104:Cf cfg 104 fc104:=⟨c104⟩
instance Z104:Zf cfg 104:=⟨rfl⟩
theorem c107:cfg.fc 107=fc107:=rfl
instance C107:Cf cfg 107 fc107:=⟨c107⟩
theorem z107:(cfg.fc 107).frz=[2]:=rfl
theorem c109:cfg.fc 109=fc109:=rfl
instance C109:Cf cfg 109 fc109:=⟨c109⟩
instance Z109:Zf cfg 109:=⟨rfl⟩
theorem c110:cfg.fc 110=fc110:=rfl
instance C110:Cf cfg 110 fc110:=⟨c110⟩
instance Z110:Zf cfg 110:=⟨rfl⟩
theorem c111:cfg.fc 111=fc111:=rfl
instance C111:Cf cfg 111 fc111:=⟨c111⟩
instance Z111:Zf cfg 111:=⟨rfl⟩
theorem c112:cfg.fc 112=fc112:=rfl
instance C112:Cf cfg 112 fc112:=⟨c112⟩
instance Z112:Zf cfg 112:=⟨rfl⟩
theorem c113:cfg.fc 113=fc113:=rfl
instance C113:Cf cfg 113 fc113:=⟨c113⟩
instance Z113:Zf cfg 113:=⟨rfl⟩
theorem c114:cfg.fc 114=fc114:=rfl
instance C114:Cf cfg 114 fc114:=⟨c114⟩
instance Z114:Zf cfg 114:=⟨rfl⟩
theorem c115:cfg.fc 115=fc115:=rfl
instance C115:Cf cfg 115 fc115:=⟨c115⟩
instance Z115:Zf cfg 115:=⟨rfl⟩
theorem z115:(cfg.fc 115).frz=[]:=rfl
theorem c116:cfg.fc 116=fc116:=rfl
instance C116:Cf cfg 116 fc116:=⟨c116⟩
instance Z116:Zf cfg 116:=⟨rfl⟩
theorem z116:(cfg.fc 116).frz=[]:=rfl
theorem c117:cfg.fc 117=fc117:=rfl
instance C117:Cf cfg 117 fc117:=⟨c117⟩
instance Z117:Zf cfg 117:=⟨rfl⟩
theorem c131:cfg.fc 131=fc131:=rfl
instance C131:Cf cfg 131 fc131:=⟨c131⟩
instance Z131:Zf cfg 131:=⟨rfl⟩
theorem c134:cfg.fc 134=fc134:=rfl
instance C134:Cf cfg 134 fc134:=⟨c134⟩
instance Z134:Zf cfg 134:=⟨rfl⟩
theorem c171:cfg.fc 171=fc171:=rfl
instance C171:Cf cfg 171 fc171:=⟨c171⟩
instance Z171:Zf cfg 171:=⟨rfl⟩
theorem z171:(cfg.fc 171).frz=[]:=rfl
theorem c172:cfg.fc 172=fc172:=rfl
instance C172:Cf cfg 172 fc172:=⟨c172⟩
instance Z172:Zf cfg 172:=⟨rfl⟩
theorem c173:cfg.fc 173=fc173:=rfl
instance C173:Cf cfg 173 fc173:=⟨c173⟩
instance Z173:Zf cfg 173:=⟨rfl⟩
theorem z173:(cfg.fc 173).frz=[]:=rfl
theorem c174:cfg.fc 174=fc174:=rfl
instance C174:Cf cfg 174 fc174:=⟨c174⟩
instance Z174:Zf cfg 174:=⟨rfl⟩
theorem z174:(cfg.fc 174).frz=[]:=rfl
theorem c177:cfg.fc 177=fc177:=rfl
instance C177:Cf cfg 177 fc177:=⟨c177⟩
instance Z177:Zf cfg 177:=⟨rfl⟩
theorem c178:cfg.fc 178=fc178:=rfl
instance C178:Cf cfg 178 fc178:=⟨c178⟩
instance Z178:Zf cfg 178:=⟨rfl⟩
theorem c179:cfg.fc 179=fc179:=rfl
instance C179:Cf cfg 179 fc179:=⟨c179⟩
instance Z179:Zf cfg 179:=⟨rfl⟩
theorem c180:cfg.fc 180=fc180:=rfl
instance C180:Cf cfg 180 fc180:=⟨c180⟩
instance Z180:Zf cfg 180:=⟨rfl⟩
theorem c181:cfg.fc 181=fc181:=rfl
instance C181:Cf cfg 181 fc181:=⟨c181⟩
instance Z181:Zf cfg 181:=⟨rfl⟩
theorem z181:(cfg.fc 181).frz=[]:=rfl
theorem c182:cfg.fc 182=fc182:=rfl
instance C182:Cf cfg 182 fc182:=⟨c182⟩
instance Z182:Zf cfg 182:=⟨rfl⟩
theorem z182:(cfg.fc 182).frz=[]:=rfl
theorem c183:cfg.fc 183=fc183:=rfl
instance C183:Cf cfg 183 fc183:=⟨c183⟩
instance Z183:Zf cfg 183:=⟨rfl⟩
theorem c194:cfg.fc 194=fc194:=rfl
instance C194:Cf cfg 194 fc194:=⟨c194⟩
instance Z194:Zf cfg 194:=⟨rfl⟩
theorem c195:cfg.fc 195=fc195:=rfl
instance C195:Cf cfg 195 fc195:=⟨c195⟩
instance Z195:Zf cfg 195:=⟨rfl⟩
theorem c196:cfg.fc 196=fc196:=rfl
instance C196:Cf cfg 196 fc196:=⟨c196⟩
instance Z196:Zf cfg 196:=⟨rfl⟩
theorem c197:cfg.fc 197=fc197:=rfl
instance C197:Cf cfg 197 fc197:=⟨c197⟩
instance Z197:Zf cfg 197:=⟨rfl⟩
theorem c198:cfg.fc 198=fc198:=rfl
instance C198:Cf cfg 198 fc198:=⟨c198⟩
instance Z198:Zf cfg 198:=⟨rfl⟩
theorem z198:(cfg.fc 198).frz=[]:=rfl
theorem c199:cfg.fc 199=fc199:=rfl
instance C199:Cf cfg 199 fc199:=⟨c199⟩
instance Z199:Zf cfg 199:=⟨rfl⟩
theorem c200:cfg.fc 200=fc200:=rfl
instance C200:Cf cfg 200 fc200:=⟨c200⟩
instance Z200:Zf cfg 200:=⟨rfl⟩
theorem c201:cfg.fc 201=fc201:=rfl
instance C201:Cf cfg 201 fc201:=⟨c201⟩
instance Z201:Zf cfg 201:=⟨rfl⟩
theorem c202:cfg.fc 202=fc202:=rfl
instance C202:Cf cfg 202 fc202:=⟨c202⟩
instance Z202:Zf cfg 202:=⟨rfl⟩
theorem z202:(cfg.fc 202).frz=[]:=rfl
theorem c203:cfg.fc 203=fc203:=rfl
instance C203:Cf cfg 203 fc203:=⟨c203⟩
instance Z203:Zf cfg 203:=⟨rfl⟩
theorem z203:(cfg.fc 203).frz=[]:=rfl
theorem c204:cfg.fc 204=fc204:=rfl
instance C204:Cf cfg 204 fc204:=⟨c204⟩
instance Z204:Zf cfg 204:=⟨rfl⟩
theorem c205:cfg.fc 205=fc205:=rfl
instance C205:Cf cfg 205 fc205:=⟨c205⟩
instance Z205:Zf cfg 205:=⟨rfl⟩
theorem c206:cfg.fc 206=fc206:=rfl
instance C206:Cf cfg 206 fc206:=⟨c206⟩
instance Z206:Zf cfg 206:=⟨rfl⟩
theorem c207:cfg.fc 207=fc207:=rfl
instance C207:Cf cfg 207 fc207:=⟨c207⟩
instance Z207:Zf cfg 207:=⟨rfl⟩
theorem c218:cfg.fc 218=fc218:=rfl
instance C218:Cf cfg 218 fc218:=⟨c218⟩
instance Z218:Zf cfg 218:=⟨rfl⟩
theorem c219:cfg.fc 219=fc219:=rfl
instance C219:Cf cfg 219 fc219:=⟨c219⟩
instance Z219:Zf cfg 219:=⟨rfl⟩
theorem c222:cfg.fc 222=fc222:=rfl
instance C222:Cf cfg 222 fc222:=⟨c222⟩
instance Z222:Zf cfg 222:=⟨rfl⟩
theorem c268:cfg.fc 268=fc268:=rfl
instance C268:Cf cfg 268 fc268:=⟨c268⟩
instance Z268:Zf cfg 268:=⟨rfl⟩
theorem c269:cfg.fc 269=fc269:=rfl
instance C269:Cf cfg 269 fc269:=⟨c269⟩
instance Z269:Zf cfg 269:=⟨rfl⟩
theorem c270:cfg.fc 270=fc270:=rfl
instance C270:Cf cfg 270 fc270:=⟨c270⟩
instance Z270:Zf cfg 270:=⟨rfl⟩
theorem c271:cfg.fc 271=fc271:=rfl
instance C271:Cf cfg 271 fc271:=⟨c271⟩
instance Z271:Zf cfg 271:=⟨rfl⟩
theorem z271:(cfg.fc 271).frz=[]:=rfl
theorem c272:cfg.fc 272=fc272:=rfl
instance C272:Cf cfg 272 fc272:=⟨c272⟩
instance Z272:Zf cfg 272:=⟨rfl⟩
theorem c273:cfg.fc 273=fc273:=rfl
instance C273:Cf cfg 273 fc273:=⟨c273⟩
instance Z273:Zf cfg 273:=⟨rfl⟩
theorem z273:(cfg.fc 273).frz=[]:=rfl
theorem c275:cfg.fc 275=fc275:=rfl
instance C275:Cf cfg 275 fc275:=⟨c275⟩
instance Z275:Zf cfg 275:=⟨rfl⟩
theorem c276:cfg.fc 276=fc276:=rfl
instance C276:Cf cfg 276 fc276:=⟨c276⟩
instance Z276:Zf cfg 276:=⟨rfl⟩
theorem c277:cfg.fc 277=fc277:=rfl
instance C277:Cf cfg 277 fc277:=⟨c277⟩
instance Z277:Zf cfg 277:=⟨rfl⟩
theorem c278:cfg.fc 278=fc278:=rfl
instance C278:Cf cfg 278 fc278:=⟨c278⟩
instance Z278:Zf cfg 278:=⟨rfl⟩
theorem c279:cfg.fc 279=fc279:=rfl
instance C279:Cf cfg 279 fc279:=⟨c279⟩
instance Z279:Zf cfg 279:=⟨rfl⟩
theorem c280:cfg.fc 280=fc280:=rfl
instance C280:Cf cfg 280 fc280:=⟨c280⟩
instance Z280:Zf cfg 280:=⟨rfl⟩
theorem c285:cfg.fc 285=fc285:=rfl
instance C285:Cf cfg 285 fc285:=⟨c285⟩
instance Z285:Zf cfg 285:=⟨rfl⟩
theorem c286:cfg.fc 286=fc286:=rfl
instance C286:Cf cfg 286 fc286:=⟨c286⟩
instance Z286:Zf cfg 286:=⟨rfl⟩
theorem c287:cfg.fc 287=fc287:=rfl
instance C287:Cf cfg 287 fc287:=⟨c287⟩
instance Z287:Zf cfg 287:=⟨rfl⟩
theorem z287:(cfg.fc 287).frz=[]:=rfl
theorem c288:cfg.fc 288=fc288:=rfl
instance C288:Cf cfg 288 fc288:=⟨c288⟩
instance Z288:Zf cfg 288:=⟨rfl⟩
theorem z288:(cfg.fc 288).frz=[]:=rfl
theorem c289:cfg.fc 289=fc289:=rfl
instance C289:Cf cfg 289 fc289:=⟨c289⟩
instance Z289:Zf cfg 289:=⟨rfl⟩
theorem c319:cfg.fc 319=fc319:=rfl
instance C319:Cf cfg 319 fc319:=⟨c319⟩
instance Z319:Zf cfg 319:=⟨rfl⟩
theorem c320:cfg.fc 320=fc320:=rfl
instance C320:Cf cfg 320 fc320:=⟨c320⟩
instance Z320:Zf cfg 320:=⟨rfl⟩
theorem z320:(cfg.fc 320).frz=[]:=rfl
theorem c321:cfg.fc 321=fc321:=rfl
instance C321:Cf cfg 321 fc321:=⟨c321⟩
instance Z321:Zf cfg 321:=⟨rfl⟩
theorem c322:cfg.fc 322=fc322:=rfl
instance C322:Cf cfg 322 fc322:=⟨c322⟩
instance Z322:Zf cfg 322:=⟨rfl⟩
theorem c323:cfg.fc 323=fc323:=rfl
instance C323:Cf cfg 323 fc323:=⟨c323⟩
instance Z323:Zf cfg 323:=⟨rfl⟩
theorem z323:(cfg.fc 323).frz=[]:=rfl
theorem c325:cfg.fc 325=fc325:=rfl
instance C325:Cf cfg 325 fc325:=⟨c325⟩
instance Z325:Zf cfg 325:=⟨rfl⟩
theorem c326:cfg.fc 326=fc326:=rfl
instance C326:Cf cfg 326 fc326:=⟨c326⟩
instance Z326:Zf cfg 326:=⟨rfl⟩
theorem c327:cfg.fc 327=fc327:=rfl
instance C327:Cf cfg 327 fc327:=⟨c327⟩
instance Z327:Zf cfg 327:=⟨rfl⟩
theorem z327:(cfg.fc 327).frz=[]:=rfl
theorem c328:cfg.fc 328=fc328:=rfl
instance C328:Cf cfg 328 fc328:=⟨c328⟩
instance Z328:Zf cfg 328:=⟨rfl⟩
theorem c354:cfg.fc 354=fc354:=rfl
instance C354:Cf cfg 354 fc354:=⟨c354⟩
instance Z354:Zf cfg 354:=⟨rfl⟩
theorem c355:cfg.fc 355=fc355:=rfl
instance C355:Cf cfg 355 fc355:=⟨c355⟩
instance Z355:Zf cfg 355:=⟨rfl⟩
theorem c356:cfg.fc 356=fc356:=rfl
instance C356:Cf cfg 356 fc356:=⟨c356⟩
instance Z356:Zf cfg 356:=⟨rfl⟩
noncomputable abbrev Pg:=Try.prog
theorem bF147:buildF Pg 147=some ([.nil,.nil],[(0,1),(1,1)]):=kr
theorem bF149:buildF Pg 149=some ([.nil,.nil,z0,z0,.nil,.im 0 (.sc (.bool false))],[(0,2),(2,1),(3,1),(4,1),(5,1)]):=kr
theorem bF184:buildF Pg 184=some ([.im 0 (.sc (.pointer none)),.nil,.im 0 (.sc (.bool false)),.nil,z0,z0,z0],[(0,1),(1,1),(2,1),(3,1),(4,1),(5,1),(6,1)]):=kr
theorem bF283:buildF Pg 283=some ([z0,z0],[(0,1),(1,1)]):=kr
theorem bF354:buildF Pg 354=some ([.nil,.nil],[(0,1),(1,1)]):=kr
theorem eF23:elemSz Pg 23=some (264,2):=kr
theorem eF24:elemSz Pg 24=some (257,2):=kr
theorem eF28:elemSz Pg 28=some (2,1):=kr
theorem eF280:elemSz Pg 280=some (283,2):=kr
theorem eF41:elemSz Pg 41=some (28,1):=kr
theorem fF147_0:fieldF Pg 147 0=some 0:=kr
theorem fF147_1:fieldF Pg 147 1=some 1:=kr
theorem fF149_0:fieldF Pg 149 0=some 0:=kr
theorem fF149_1:fieldF Pg 149 1=some 2:=kr
theorem fF149_2:fieldF Pg 149 2=some 3:=kr
theorem fF149_3:fieldF Pg 149 3=some 4:=kr
theorem fF149_4:fieldF Pg 149 4=some 5:=kr
theorem fF184_0:fieldF Pg 184 0=some 0:=kr
theorem fF184_1:fieldF Pg 184 1=some 1:=kr
theorem fF184_2:fieldF Pg 184 2=some 2:=kr
theorem fF184_3:fieldF Pg 184 3=some 3:=kr
theorem fF184_4:fieldF Pg 184 4=some 4:=kr
theorem fF184_5:fieldF Pg 184 5=some 5:=kr
theorem fF184_6:fieldF Pg 184 6=some 6:=kr
theorem fF257_0:fieldF Pg 257 0=some 0:=kr
theorem fF257_1:fieldF Pg 257 1=some 1:=kr
theorem fF264_0:fieldF Pg 264 0=some 0:=kr
theorem fF264_1:fieldF Pg 264 1=some 1:=kr
theorem fF26_0:fieldF Pg 26 0=some 0:=kr
theorem fF26_1:fieldF Pg 26 1=some 1:=kr
theorem fF26_2:fieldF Pg 26 2=some 2:=kr
theorem fF26_3:fieldF Pg 26 3=some 3:=kr
theorem fF287_0:fieldF Pg 287 0=some 0:=kr
theorem fF287_1:fieldF Pg 287 1=some 1:=kr
theorem fF291_0:fieldF Pg 291 0=some 0:=kr
theorem fF291_1:fieldF Pg 291 1=some 1:=kr
theorem fF354_0:fieldF Pg 354 0=some 0:=kr
theorem fF354_1:fieldF Pg 354 1=some 1:=kr
theorem fF56_0:fieldF Pg 56 0=some 0:=kr
theorem fF56_1:fieldF Pg 56 1=some 1:=kr
theorem fF56_2:fieldF Pg 56 2=some 2:=kr
theorem fF56_3:fieldF Pg 56 3=some 3:=kr
theorem kF103_28_2:callK Pg cfg 103 0 [28,2]=[(.cst false,[some 1]),(.cst false,[none])]:=kr
theorem kF104_28_174:callK Pg cfg 104 0 [28,174]=[(.cst false,[some 1]),(.cst false,[none])]:=kr
theorem kF107_26:callK Pg cfg 107 0 [26]=[(.cst false,[none,none,some 2,some 2])]:=kr
theorem kF109_147_28_2:callK Pg cfg 109 0 [147,28,2]=[(.cst false,[some 1,some 1]),(.cst false,[some 1]),(.cst false,[none])]:=kr
theorem kF110_53_3:callK Pg cfg 110 0 [53,3]=[(.cst false,[some 2]),(.cst false,[none])]:=kr
theorem kF111_54_3:callK Pg cfg 111 0 [54,3]=[(.cst false,[some 2]),(.cst false,[none])]:=kr
theorem kF112_141_2_4:callK Pg cfg 112 0 [141,2,4]=[(.cut 4,[none]),(.cst false,[none]),(.cst false,[none])]:=kr
theorem kF113_53:callK Pg cfg 113 0 [53]=[(.cst false,[some 2])]:=kr
theorem kF114_54:callK Pg cfg 114 0 [54]=[(.cst false,[some 2])]:=kr
theorem kF115_23_23:callK Pg cfg 115 0 [23,23]=[(.cst false,[some 2]),(.cst false,[some 2])]:=kr
theorem kF116_24_24:callK Pg cfg 116 0 [24,24]=[(.cst false,[some 2]),(.cst false,[some 2])]:=kr
theorem kF117_28:callK Pg cfg 117 0 [28]=[(.cst false,[some 1])]:=kr
theorem kF131_28_3:callK Pg cfg 131 0 [28,3]=[(.cst false,[some 1]),(.cst false,[none])]:=kr
theorem kF134_28:callK Pg cfg 134 0 [28]=[(.cst false,[some 1])]:=kr
theorem kF171_141:callK Pg cfg 171 0 [141]=[(.cut 4,[none])]:=kr
theorem kF172_9:callK Pg cfg 172 0 [9]=[(.cst false,[none])]:=kr
theorem kF173_141_28:callK Pg cfg 173 0 [141,28]=[(.cut 4,[none]),(.cst false,[some 1])]:=kr
theorem kF174_23:callK Pg cfg 174 0 [23]=[(.cst false,[some 2])]:=kr
theorem kF177_142_28:callK Pg cfg 177 0 [142,28]=[(.ptr [.imm,.imm,.imm,.imm,.sh,.imm],[none]),(.mv,[some 1])]:=kr
theorem kF178_23_264:callK Pg cfg 178 0 [23,264]=[(.cst false,[some 2]),(.cst false,[none,none])]:=kr
theorem kF179_9:callK Pg cfg 179 0 [9]=[(.cst false,[none])]:=kr
theorem kF17_26_2:callK Pg cfg 17 0 [26,2]=[(.cst false,[none,none,some 2,some 2]),(.cst false,[none])]:=kr
theorem kF180_23_28:callK Pg cfg 180 0 [23,28]=[(.cst false,[some 2]),(.cst false,[some 1])]:=kr
theorem kF181_23:callK Pg cfg 181 0 [23]=[(.cst false,[some 2])]:=kr
theorem kF182_26_2:callK Pg cfg 182 0 [26,2]=[(.cst false,[none,none,some 2,some 2]),(.cst false,[none])]:=kr
theorem kF183_147_28_2:callK Pg cfg 183 0 [147,28,2]=[(.cst false,[some 1,some 1]),(.cst false,[some 1]),(.cst false,[none])]:=kr
theorem kF192_28:callK Pg cfg 192 0 [28]=[(.cst false,[some 1])]:=kr
theorem kF194_28_2:callK Pg cfg 194 0 [28,2]=[(.cst false,[some 1]),(.cst false,[none])]:=kr
theorem kF195_28_174:callK Pg cfg 195 0 [28,174]=[(.cst false,[some 1]),(.cst false,[none])]:=kr
theorem kF196_28:callK Pg cfg 196 0 [28]=[(.cst false,[some 1])]:=kr
theorem kF197_280_285:callK Pg cfg 197 0 [280,285]=[(.cst false,[some 2]),(.cst false,[none])]:=kr
theorem kF198_283_0_0:callK Pg cfg 198 0 [283,0,0]=[(.cst false,[none,none]),(.cst false,[none]),(.cst false,[none])]:=kr
theorem kF199_280_283:callK Pg cfg 199 0 [280,283]=[(.cst false,[some 2]),(.cst false,[none,none])]:=kr
theorem kF200_2_0:callK Pg cfg 200 0 [2,0]=[(.cst false,[none]),(.cst false,[none])]:=kr
theorem kF201_287_3:callK Pg cfg 201 0 [287,3]=[(.cst false,[none,some 1]),(.cst false,[none])]:=kr
theorem kF202_141:callK Pg cfg 202 0 [141]=[(.cut 4,[none])]:=kr
theorem kF203_179:callK Pg cfg 203 0 [179]=[(.ptr [.imm,.sh,.imm,.sh,.imm,.imm,.imm],[none])]:=kr
theorem kF204_291:callK Pg cfg 204 0 [291]=[(.cst false,[none,none])]:=kr
theorem kF205_287:callK Pg cfg 205 0 [287]=[(.cst false,[none,some 1])]:=kr
theorem kF206_264_264:callK Pg cfg 206 0 [264,264]=[(.cst false,[none,none]),(.cst false,[none,none])]:=kr
theorem kF207_257_257:callK Pg cfg 207 0 [257,257]=[(.cst false,[none,some 1]),(.cst false,[none,some 1])]:=kr
theorem kF218_2_2:callK Pg cfg 218 0 [2,2]=[(.cst false,[none]),(.cst false,[none])]:=kr
theorem kF219_28_2:callK Pg cfg 219 0 [28,2]=[(.cst false,[some 1]),(.cst false,[none])]:=kr
theorem kF222_2_2:callK Pg cfg 222 0 [2,2]=[(.cst false,[none]),(.cst false,[none])]:=kr
theorem kF268_5:callK Pg cfg 268 0 [5]=[(.cst false,[none])]:=kr
theorem kF269_5:callK Pg cfg 269 0 [5]=[(.cst false,[none])]:=kr
theorem kF270_264:callK Pg cfg 270 0 [264]=[(.cst false,[none,none])]:=kr
theorem kF271_264_264_264:callK Pg cfg 271 0 [264,264,264]=[(.cst false,[none,none]),(.cst false,[none,none]),(.cst false,[none,none])]:=kr
theorem kF272_264_264_264_264:callK Pg cfg 272 0 [264,264,264,264]=[(.cst false,[none,none]),(.cst false,[none,none]),(.cst false,[none,none]),(.cst false,[none,none])]:=kr
theorem kF273_23:callK Pg cfg 273 0 [23]=[(.cst false,[some 2])]:=kr
theorem kF275_23_264:callK Pg cfg 275 0 [23,264]=[(.cst false,[some 2]),(.cst false,[none,none])]:=kr
theorem kF276_23:callK Pg cfg 276 0 [23]=[(.cst false,[some 2])]:=kr
theorem kF277_264_264_264:callK Pg cfg 277 0 [264,264,264]=[(.cst false,[none,none]),(.cst false,[none,none]),(.cst false,[none,none])]:=kr
theorem kF278_264_264_264_264:callK Pg cfg 278 0 [264,264,264,264]=[(.cst false,[none,none]),(.cst false,[none,none]),(.cst false,[none,none]),(.cst false,[none,none])]:=kr
theorem kF279_23:callK Pg cfg 279 0 [23]=[(.cst false,[some 2])]:=kr
theorem kF280_2_0:callK Pg cfg 280 0 [2,0]=[(.cst false,[none]),(.cst false,[none])]:=kr
theorem kF285_280_285:callK Pg cfg 285 0 [280,285]=[(.cst false,[some 2]),(.cst false,[none])]:=kr
theorem kF286_280_283:callK Pg cfg 286 0 [280,283]=[(.cst false,[some 2]),(.cst false,[none,none])]:=kr
theorem kF287_141_2:callK Pg cfg 287 0 [141,2]=[(.cut 4,[none]),(.cst false,[none])]:=kr
theorem kF288_141_2:callK Pg cfg 288 0 [141,2]=[(.cut 4,[none]),(.cst false,[none])]:=kr
theorem kF289_182_28:callK Pg cfg 289 0 [182,28]=[(.cut 2,[none]),(.cst false,[some 1])]:=kr
theorem kF319_264_264_264:callK Pg cfg 319 0 [264,264,264]=[(.cst false,[none,none]),(.cst false,[none,none]),(.cst false,[none,none])]:=kr
theorem kF320_264_264_264_264:callK Pg cfg 320 0 [264,264,264,264]=[(.cst false,[none,none]),(.cst false,[none,none]),(.cst false,[none,none]),(.cst false,[none,none])]:=kr
theorem kF321_264:callK Pg cfg 321 0 [264]=[(.cst false,[none,none])]:=kr
theorem kF322_264_264_264:callK Pg cfg 322 0 [264,264,264]=[(.cst false,[none,none]),(.cst false,[none,none]),(.cst false,[none,none])]:=kr
theorem kF323_264_264_264_264:callK Pg cfg 323 0 [264,264,264,264]=[(.cst false,[none,none]),(.cst false,[none,none]),(.cst false,[none,none]),(.cst false,[none,none])]:=kr
theorem kF325_28_2_2:callK Pg cfg 325 0 [28,2,2]=[(.cst false,[some 1]),(.cst false,[none]),(.cst false,[none])]:=kr
theorem kF326_141_2:callK Pg cfg 326 0 [141,2]=[(.cut 4,[none]),(.cst false,[none])]:=kr
theorem kF327_141_264_264:callK Pg cfg 327 0 [141,264,264]=[(.cut 4,[none]),(.cst false,[none,none]),(.cst false,[none,none])]:=kr
theorem kF328_182_28_2:callK Pg cfg 328 0 [182,28,2]=[(.cut 2,[none]),(.cst false,[some 1]),(.cst false,[none])]:=kr
theorem kF354_264_264_264:callK Pg cfg 354 0 [264,264,264]=[(.cst false,[none,none]),(.cst false,[none,none]),(.cst false,[none,none])]:=kr
theorem kF355_182_28_2:callK Pg cfg 355 0 [182,28,2]=[(.cut 2,[none]),(.cst false,[some 1]),(.cst false,[none])]:=kr
theorem kF356_182_28_2:callK Pg cfg 356 0 [182,28,2]=[(.cut 2,[none]),(.cst false,[some 1]),(.cst false,[none])]:=kr
theorem kF36_56_3:callK Pg cfg 36 0 [56,3]=[(.cst false,[none,none,some 2,some 2]),(.cst false,[none])]:=kr
theorem kF37_26_2:callK Pg cfg 37 0 [26,2]=[(.cst false,[none,none,some 2,some 2]),(.cst false,[none])]:=kr
theorem kF38_56:callK Pg cfg 38 0 [56]=[(.cst false,[none,none,some 2,some 2])]:=kr
theorem kF39_26_26:callK Pg cfg 39 0 [26,26]=[(.cst false,[none,none,some 2,some 2]),(.cst false,[none,none,some 2,some 2])]:=kr
theorem kF41_28_28:callK Pg cfg 41 0 [28,28]=[(.cst false,[some 1]),(.cst false,[some 1])]:=kr
theorem kF84_141:callK Pg cfg 84 0 [141]=[(.cut 4,[none])]:=kr
theorem kF86_26_2_4:callK Pg cfg 86 0 [26,2,4]=[(.cst false,[none,none,some 2,some 2]),(.cst false,[none]),(.cst false,[none])]:=kr
theorem kF87_26:callK Pg cfg 87 0 [26]=[(.cst false,[none,none,some 2,some 2])]:=kr
theorem kF88_26:callK Pg cfg 88 0 [26]=[(.cst false,[none,none,some 2,some 2])]:=kr
theorem kF89_147_28:callK Pg cfg 89 0 [147,28]=[(.cst false,[some 1,some 1]),(.cst false,[some 1])]:=kr
theorem kF91_147_28_2:callK Pg cfg 91 0 [147,28,2]=[(.cst false,[some 1,some 1]),(.cst false,[some 1]),(.cst false,[none])]:=kr
theorem kF94_2_2_2:callK Pg cfg 94 0 [2,2,2]=[(.cst false,[none]),(.cst false,[none]),(.cst false,[none])]:=kr
theorem kF98_2_2_2:callK Pg cfg 98 0 [2,2,2]=[(.cst false,[none]),(.cst false,[none]),(.cst false,[none])]:=kr
theorem qEF264:∀(a0:Int) (a1:Int) (b0:Int) (b1:Int),binAgg Pg 264 .eql [.int .i64 a0,.int .i64 a1] [.int .i64 b0,.int .i64 b1]=some (.bool ((a0==b0)&&(a1==b1))):=by intros;kernel_rfl
theorem qEF283:∀(a0:Int) (a1:Int) (b0:Int) (b1:Int),binAgg Pg 283 .eql [.int .i64 a0,.int .i64 a1] [.int .i64 b0,.int .i64 b1]=some (.bool ((a0==b0)&&(a1==b1))):=by intros;kernel_rfl
theorem rF103:resK Pg (Try.f103.results.toList.zip Try.f103.resultTypes.toList)=[(.tmp 4,[none],none)]:=kr
theorem rF104:resK Pg (Try.f104.results.toList.zip Try.f104.resultTypes.toList)=[(.tmp 4,[none],none)]:=kr
theorem rF107:resK Pg (Try.f107.results.toList.zip Try.f107.resultTypes.toList)=[(.tmp 2,[some 1],none)]:=kr
theorem rF109:resK Pg (Try.f109.results.toList.zip Try.f109.resultTypes.toList)=[(.tmp 6,[none],none)]:=kr
theorem rF110:resK Pg (Try.f110.results.toList.zip Try.f110.resultTypes.toList)=[(.tmp 4,[none],none)]:=kr
theorem rF111:resK Pg (Try.f111.results.toList.zip Try.f111.resultTypes.toList)=[(.tmp 4,[none],none)]:=kr
theorem rF112:resK Pg (Try.f112.results.toList.zip Try.f112.resultTypes.toList)=[(.tmp 6,[none],none),(.tmp 7,[none],none)]:=kr
theorem rF113:resK Pg (Try.f113.results.toList.zip Try.f113.resultTypes.toList)=[(.tmp 2,[some 2],none)]:=kr
theorem rF114:resK Pg (Try.f114.results.toList.zip Try.f114.resultTypes.toList)=[(.tmp 2,[some 2],none)]:=kr
theorem rF115:resK Pg (Try.f115.results.toList.zip Try.f115.resultTypes.toList)=[(.tmp 4,[none],none)]:=kr
theorem rF116:resK Pg (Try.f116.results.toList.zip Try.f116.resultTypes.toList)=[(.tmp 4,[none],none)]:=kr
theorem rF117:resK Pg (Try.f117.results.toList.zip Try.f117.resultTypes.toList)=[(.tmp 2,[some 1],none)]:=kr
theorem rF131:resK Pg (Try.f131.results.toList.zip Try.f131.resultTypes.toList)=[(.tmp 4,[none],none)]:=kr
theorem rF134:resK Pg (Try.f134.results.toList.zip Try.f134.resultTypes.toList)=[(.tmp 2,[some 1],none)]:=kr
theorem rF17:resK Pg (Try.f17.results.toList.zip Try.f17.resultTypes.toList)=[(.tmp 4,[none],none),(.tmp 5,[none],none)]:=kr
theorem rF171:resK Pg (Try.f171.results.toList.zip Try.f171.resultTypes.toList)=[(.tmp 2,[none],none)]:=kr
theorem rF172:resK Pg (Try.f172.results.toList.zip Try.f172.resultTypes.toList)=[(.tmp 2,[none],none)]:=kr
theorem rF173:resK Pg (Try.f173.results.toList.zip Try.f173.resultTypes.toList)=[(.tmp 4,[some 2],none),(.tmp 5,[none],none)]:=kr
theorem rF174:resK Pg (Try.f174.results.toList.zip Try.f174.resultTypes.toList)=[(.tmp 2,[none],none)]:=kr
theorem rF177:resK Pg (Try.f177.results.toList.zip Try.f177.resultTypes.toList)=[(.tmp 4,[none],none)]:=kr
theorem rF178:resK Pg (Try.f178.results.toList.zip Try.f178.resultTypes.toList)=[(.tmp 4,[none],none)]:=kr
theorem rF179:resK Pg (Try.f179.results.toList.zip Try.f179.resultTypes.toList)=[(.tmp 2,[none],none)]:=kr
theorem rF180:resK Pg (Try.f180.results.toList.zip Try.f180.resultTypes.toList)=[(.tmp 4,[some 2],none),(.tmp 5,[none],none)]:=kr
theorem rF181:resK Pg (Try.f181.results.toList.zip Try.f181.resultTypes.toList)=[(.tmp 2,[none],none)]:=kr
theorem rF182:resK Pg (Try.f182.results.toList.zip Try.f182.resultTypes.toList)=[(.tmp 4,[some 2],none)]:=kr
theorem rF183:resK Pg (Try.f183.results.toList.zip Try.f183.resultTypes.toList)=[(.tmp 6,[none],none)]:=kr
theorem rF192:resK Pg (Try.f192.results.toList.zip Try.f192.resultTypes.toList)=[(.tmp 2,[some 1],none)]:=kr
theorem rF194:resK Pg (Try.f194.results.toList.zip Try.f194.resultTypes.toList)=[(.tmp 4,[none],none)]:=kr
theorem rF195:resK Pg (Try.f195.results.toList.zip Try.f195.resultTypes.toList)=[(.tmp 4,[none],none)]:=kr
theorem rF196:resK Pg (Try.f196.results.toList.zip Try.f196.resultTypes.toList)=[(.tmp 2,[some 2],none)]:=kr
theorem rF197:resK Pg (Try.f197.results.toList.zip Try.f197.resultTypes.toList)=[(.tmp 4,[none],none)]:=kr
theorem rF198:resK Pg (Try.f198.results.toList.zip Try.f198.resultTypes.toList)=[(.tmp 4,[none],none)]:=kr
theorem rF199:resK Pg (Try.f199.results.toList.zip Try.f199.resultTypes.toList)=[(.tmp 4,[none],none)]:=kr
theorem rF200:resK Pg (Try.f200.results.toList.zip Try.f200.resultTypes.toList)=[(.tmp 3,[none],none)]:=kr
theorem rF201:resK Pg (Try.f201.results.toList.zip Try.f201.resultTypes.toList)=[(.tmp 4,[none],none)]:=kr
theorem rF202:resK Pg (Try.f202.results.toList.zip Try.f202.resultTypes.toList)=[(.tmp 2,[none],none)]:=kr
theorem rF203:resK Pg (Try.f203.results.toList.zip Try.f203.resultTypes.toList)=[(.tmp 2,[none],none)]:=kr
theorem rF204:resK Pg (Try.f204.results.toList.zip Try.f204.resultTypes.toList)=[(.cell 2 264,[none,none],some (true,2))]:=kr
theorem rF205:resK Pg (Try.f205.results.toList.zip Try.f205.resultTypes.toList)=[(.cell 2 257,[none,some 1],some (true,2))]:=kr
theorem rF206:resK Pg (Try.f206.results.toList.zip Try.f206.resultTypes.toList)=[(.tmp 4,[none],none)]:=kr
theorem rF207:resK Pg (Try.f207.results.toList.zip Try.f207.resultTypes.toList)=[(.tmp 4,[none],none)]:=kr
theorem rF218:resK Pg (Try.f218.results.toList.zip Try.f218.resultTypes.toList)=[(.tmp 4,[none],none)]:=kr
theorem rF219:resK Pg (Try.f219.results.toList.zip Try.f219.resultTypes.toList)=[(.tmp 4,[none],none)]:=kr
theorem rF222:resK Pg (Try.f222.results.toList.zip Try.f222.resultTypes.toList)=[(.tmp 4,[none],none)]:=kr
theorem rF268:resK Pg (Try.f268.results.toList.zip Try.f268.resultTypes.toList)=[(.tmp 2,[none],none)]:=kr
theorem rF269:resK Pg (Try.f269.results.toList.zip Try.f269.resultTypes.toList)=[(.tmp 2,[none],none)]:=kr
theorem rF270:resK Pg (Try.f270.results.toList.zip Try.f270.resultTypes.toList)=[(.tmp 2,[none],none)]:=kr
theorem rF271:resK Pg (Try.f271.results.toList.zip Try.f271.resultTypes.toList)=[(.tmp 6,[none],none)]:=kr
theorem rF272:resK Pg (Try.f272.results.toList.zip Try.f272.resultTypes.toList)=[(.tmp 8,[none],none)]:=kr
theorem rF273:resK Pg (Try.f273.results.toList.zip Try.f273.resultTypes.toList)=[(.tmp 2,[none],none)]:=kr
theorem rF275:resK Pg (Try.f275.results.toList.zip Try.f275.resultTypes.toList)=[(.tmp 4,[none],none)]:=kr
theorem rF276:resK Pg (Try.f276.results.toList.zip Try.f276.resultTypes.toList)=[(.tmp 2,[none],none)]:=kr
theorem rF277:resK Pg (Try.f277.results.toList.zip Try.f277.resultTypes.toList)=[(.tmp 6,[none],none)]:=kr
theorem rF278:resK Pg (Try.f278.results.toList.zip Try.f278.resultTypes.toList)=[(.tmp 8,[none],none)]:=kr
theorem rF279:resK Pg (Try.f279.results.toList.zip Try.f279.resultTypes.toList)=[(.tmp 2,[none],none)]:=kr
theorem rF280:resK Pg (Try.f280.results.toList.zip Try.f280.resultTypes.toList)=[(.tmp 3,[none],none)]:=kr
theorem rF285:resK Pg (Try.f285.results.toList.zip Try.f285.resultTypes.toList)=[(.tmp 4,[none],none)]:=kr
theorem rF286:resK Pg (Try.f286.results.toList.zip Try.f286.resultTypes.toList)=[(.tmp 4,[none],none)]:=kr
theorem rF287:resK Pg (Try.f287.results.toList.zip Try.f287.resultTypes.toList)=[(.tmp 4,[some 1],none)]:=kr
theorem rF288:resK Pg (Try.f288.results.toList.zip Try.f288.resultTypes.toList)=[(.tmp 4,[none],none)]:=kr
theorem rF289:resK Pg (Try.f289.results.toList.zip Try.f289.resultTypes.toList)=[(.tmp 4,[some 1],none)]:=kr
theorem rF319:resK Pg (Try.f319.results.toList.zip Try.f319.resultTypes.toList)=[(.tmp 6,[none],none)]:=kr
theorem rF320:resK Pg (Try.f320.results.toList.zip Try.f320.resultTypes.toList)=[(.tmp 8,[none],none)]:=kr
theorem rF321:resK Pg (Try.f321.results.toList.zip Try.f321.resultTypes.toList)=[(.tmp 2,[none],none)]:=kr
theorem rF322:resK Pg (Try.f322.results.toList.zip Try.f322.resultTypes.toList)=[(.tmp 6,[none],none)]:=kr
theorem rF323:resK Pg (Try.f323.results.toList.zip Try.f323.resultTypes.toList)=[(.tmp 8,[none],none)]:=kr
theorem rF325:resK Pg (Try.f325.results.toList.zip Try.f325.resultTypes.toList)=[(.tmp 6,[none],none)]:=kr
theorem rF326:resK Pg (Try.f326.results.toList.zip Try.f326.resultTypes.toList)=[(.tmp 4,[some 2],none)]:=kr
theorem rF327:resK Pg (Try.f327.results.toList.zip Try.f327.resultTypes.toList)=[(.tmp 6,[none],none)]:=kr
theorem rF328:resK Pg (Try.f328.results.toList.zip Try.f328.resultTypes.toList)=[(.tmp 6,[none],none)]:=kr
theorem rF354:resK Pg (Try.f354.results.toList.zip Try.f354.resultTypes.toList)=[(.tmp 6,[none],none)]:=kr
theorem rF355:resK Pg (Try.f355.results.toList.zip Try.f355.resultTypes.toList)=[(.tmp 6,[none],none)]:=kr
theorem rF356:resK Pg (Try.f356.results.toList.zip Try.f356.resultTypes.toList)=[(.tmp 6,[none],none)]:=kr
theorem rF36:resK Pg (Try.f36.results.toList.zip Try.f36.resultTypes.toList)=[(.tmp 4,[none],none)]:=kr
theorem rF37:resK Pg (Try.f37.results.toList.zip Try.f37.resultTypes.toList)=[(.tmp 4,[none],none),(.tmp 5,[none],none)]:=kr
theorem rF38:resK Pg (Try.f38.results.toList.zip Try.f38.resultTypes.toList)=[(.cell 2 26,[none,none,some 2,some 2],some (true,4))]:=kr
theorem rF39:resK Pg (Try.f39.results.toList.zip Try.f39.resultTypes.toList)=[(.tmp 4,[none],none)]:=kr
theorem rF41:resK Pg (Try.f41.results.toList.zip Try.f41.resultTypes.toList)=[(.tmp 4,[none],none)]:=kr
theorem rF6:resK Pg (Try.f6.results.toList.zip Try.f6.resultTypes.toList)=[(.tmp 4,[none],none)]:=kr
theorem rF84:resK Pg (Try.f84.results.toList.zip Try.f84.resultTypes.toList)=[(.tmp 2,[none],none)]:=kr
theorem rF86:resK Pg (Try.f86.results.toList.zip Try.f86.resultTypes.toList)=[(.tmp 6,[none],none),(.tmp 7,[none],none)]:=kr
theorem rF87:resK Pg (Try.f87.results.toList.zip Try.f87.resultTypes.toList)=[(.tmp 2,[none],none)]:=kr
theorem rF88:resK Pg (Try.f88.results.toList.zip Try.f88.resultTypes.toList)=[(.cell 2 147,[some 1,some 1],some (true,2))]:=kr
theorem rF89:resK Pg (Try.f89.results.toList.zip Try.f89.resultTypes.toList)=[(.tmp 4,[some 1],none)]:=kr
theorem rF91:resK Pg (Try.f91.results.toList.zip Try.f91.resultTypes.toList)=[(.tmp 6,[none],none)]:=kr
theorem rF94:resK Pg (Try.f94.results.toList.zip Try.f94.resultTypes.toList)=[(.tmp 6,[none],none)]:=kr
theorem rF98:resK Pg (Try.f98.results.toList.zip Try.f98.resultTypes.toList)=[(.tmp 6,[none],none)]:=kr
theorem sF145:sliceF Pg 145=some (4,1,[none],false,1,[.im 0 (.sc (.bool false))]):=kr
theorem sF23:sliceF Pg 23=some (264,2,[none,none],true,16,[z0,z0]):=kr
theorem sF24:sliceF Pg 24=some (257,2,[none,some 1],true,40,[z1,.nil]):=kr
theorem sF279:sliceF Pg 279=some (280,1,[some 2],false,24,[.nil]):=kr
theorem sF28:sliceF Pg 28=some (2,1,[none],false,8,[z0]):=kr
theorem sF280:sliceF Pg 280=some (283,2,[none,none],true,16,[z0,z0]):=kr
theorem sF41:sliceF Pg 41=some (28,1,[some 1],false,24,[.nil]):=kr
theorem sF53:sliceF Pg 53=some (291,2,[none,none],true,16,[z0,z0]):=kr
theorem sF54:sliceF Pg 54=some (287,2,[none,some 1],true,40,[z1,.nil]):=kr
theorem tF145:tyF Pg 145=some ([.nil],[some 1],false,1):=kr
theorem tF147:tyF Pg 147=some ([.nil,.nil],[some 1,some 1],true,2):=kr
theorem tF149:tyF Pg 149=some ([.nil,.nil,z0,z0,.nil,.im 0 (.sc (.bool false))],[some 1,some 1,none,none,some 1,none],true,6):=kr
theorem tF182:tyF Pg 182=some ([.im 0 (.sc (.pointer none))],[none],false,1):=kr
theorem tF184:tyF Pg 184=some ([.im 0 (.sc (.pointer none)),.nil,.im 0 (.sc (.bool false)),.nil,z0,z0,z0],[none,some 1,none,some 1,none,none,none],true,7):=kr
theorem tF2:tyF Pg 2=some ([z0],[none],false,1):=kr
theorem tF23:tyF Pg 23=some ([.nil],[some 2],false,1):=kr
theorem tF24:tyF Pg 24=some ([.nil],[some 2],false,1):=kr
theorem tF257:tyF Pg 257=some ([z1,.nil],[none,some 1],true,2):=kr
theorem tF26:tyF Pg 26=some ([z0,z0,.nil,.nil],[none,none,some 2,some 2],true,4):=kr
theorem tF264:tyF Pg 264=some ([z0,z0],[none,none],true,2):=kr
theorem tF279:tyF Pg 279=some ([.nil],[some 1],false,1):=kr
theorem tF28:tyF Pg 28=some ([.nil],[some 1],false,1):=kr
theorem tF280:tyF Pg 280=some ([.nil],[some 2],false,1):=kr
theorem tF283:tyF Pg 283=some ([z0,z0],[none,none],true,2):=kr
theorem tF287:tyF Pg 287=some ([z1,.nil],[none,some 1],true,2):=kr
theorem tF291:tyF Pg 291=some ([z0,z0],[none,none],true,2):=kr
theorem tF3:tyF Pg 3=some ([z0],[none],false,1):=kr
theorem tF354:tyF Pg 354=some ([.nil,.nil],[some 1,some 1],true,2):=kr
theorem tF4:tyF Pg 4=some ([.im 0 (.sc (.bool false))],[none],false,1):=kr
theorem tF41:tyF Pg 41=some ([.nil],[some 1],false,1):=kr
theorem tF53:tyF Pg 53=some ([.nil],[some 2],false,1):=kr
theorem tF54:tyF Pg 54=some ([.nil],[some 2],false,1):=kr
theorem tF56:tyF Pg 56=some ([z0,z0,.nil,.nil],[none,none,some 2,some 2],true,4):=kr
theorem tF9:tyF Pg 9=some ([z1],[none],false,1):=kr
theorem uF145:Pg.underlying 145=some (.slice 4):=kr
theorem uF23:Pg.underlying 23=some (.slice 264):=kr
theorem uF24:Pg.underlying 24=some (.slice 257):=kr
theorem uF279:Pg.underlying 279=some (.slice 280):=kr
theorem uF28:Pg.underlying 28=some (.slice 2):=kr
theorem uF280:Pg.underlying 280=some (.slice 283):=kr
theorem uF41:Pg.underlying 41=some (.slice 28):=kr
theorem uF53:Pg.underlying 53=some (.slice 291):=kr
theorem uF54:Pg.underlying 54=some (.slice 287):=kr
theorem uF9:Pg.underlying 9=some .string:=kr
abbrev FX (i:Nat) (a:List Arg) (r:Res×List Out):Prop:=FL Try.prog cfg i a=some r
theorem L_laws_szPointS {a_0:(List S_Point)} {left_1:Int} {r:Int} (h:laws_szPointS a_0 left_1=some r):FX 110 [.im 2 false [W 2 e_S_Point a_0],.im 2 false [I left_1]] (B0 [(false,[.im 0 (I r)])]):=by
 unfold laws_szPointS at h
 refine gn 12 Try.func110 rfl ?_
 refine gs<|g0 j j (q (oAsI j j)<|nl)<|us<|gs<|g0 j j (q (oMv j j)<|q (oMv j j)<|q (oLnI j j uF53 j)<|q (oBi j j j j)<|q (oAsI j j)<|nl)<|us<|gs<|gs<|g0 j j (q (oMv j j)<|q (oBi j j j j)<|nl)<|us<|gc h j iDec (fun hc1 h=>?_) fun hc1 h=>?_
 ·refine gs<|g0 j j (q (oAsI j j)<|nl)<|us<|Go.ret (Unw.ret ?_)
  cases h
  exact fr rF110 j
 ·refine Go.skip<|us<|gs<|g0 j j (q (oMv j j)<|q (oAsI j j)<|nl)<|us<|Go.ret (Unw.ret ?_)
  cases h
  exact fr rF110 j
theorem L_laws_szInt64S {a_0:(List Int)} {left_1:Int} {r:Int} (h:laws_szInt64S a_0 left_1=some r):FX 131 [.im 2 false [W 1 eI a_0],.im 2 false [I left_1]] (B0 [(false,[.im 0 (I r)])]):=by
 unfold laws_szInt64S at h
 refine gn 12 Try.func131 rfl ?_
 refine gs<|g0 j j (q (oAsI j j)<|nl)<|us<|gs<|g0 j j (q (oMv j j)<|q (oMv j j)<|q (oLnI j j uF28 j)<|q (oBi j j j j)<|q (oAsI j j)<|nl)<|us<|gs<|gs<|g0 j j (q (oMv j j)<|q (oBi j j j j)<|nl)<|us<|gc h j iDec (fun hc1 h=>?_) fun hc1 h=>?_
 ·refine gs<|g0 j j (q (oAsI j j)<|nl)<|us<|Go.ret (Unw.ret ?_)
  cases h
  exact fr rF131 j
 ·refine Go.skip<|us<|gs<|g0 j j (q (oMv j j)<|q (oAsI j j)<|nl)<|us<|Go.ret (Unw.ret ?_)
  cases h
  exact fr rF131 j
theorem L_laws_szFace {a_0:S_Face} {left_1:Int} {r:Int} (h:laws_szFace a_0 left_1=some r):FX 201 [.im 2 true (u_S_Face a_0),.im 2 false [I left_1]] (B0 [(false,[.im 0 (I r)])]):=by
 unfold laws_szFace at h
 refine gn 19 Try.func201 rfl ?_
 refine gs<|g0 j j (q (oBx j tF287 j (tkI (tkI tk0)))<|q (oAsI j j)<|nl)<|us<|gs<|g0 j j (q (oMv j j)<|q (oFA (r':=.mp 2 0 0) j fF287_0 j j)<|q (oLd (cs:=[.im 0 _]) j tF9 j j)<|q (oLnS j j uF9 j)<|q (oBi j j j j)<|q (oAsI j j)<|nl)<|us<|gs<|gs<|g0 j j (q (oMv j j)<|q (oBi j j j j)<|nl)<|us<|gc h j iDec (fun hc1 h=>?_) fun hc1 h=>?_
 ·refine gs<|g0 j j (q (oAsI j j)<|nl)<|us<|Go.ret (Unw.ret ?_)
  cases h
  exact fr rF201 j
 ·refine Go.skip<|us<|gs<|?_
  obtain ⟨x15,hx15,h⟩:=bs h
  refine g0 j j (q (oFA (r':=.mp 2 0 1) j fF287_1 j j)<|q (oLd (cs:=[.im 2 _]) j tF28 j j)<|q (oMv j j)<|q (oCa (xs:=[.v false [.im 2 _],.v false [.im 0 _]]) (vs:=[(false,[.im 0 _])]) (v:=.v false [.im 0 _]) (L_laws_szInt64S hx15) (.inl j) j kF131_28_3 j (ppC j (ppC j pp0)) j j pb0 j j j)<|q (oAsI j j)<|nl)<|us<|gs<|gs<|g0 j j (q (oMv j j)<|q (oBi j j j j)<|nl)<|us<|gc h j iDec (fun hc2 h=>?_) fun hc2 h=>?_
  ·refine gs<|g0 j j (q (oAsI j j)<|nl)<|us<|Go.ret (Unw.ret ?_)
   cases h
   exact fr rF201 j
  ·refine Go.skip<|us<|gs<|g0 j j (q (oMv j j)<|q (oAsI j j)<|nl)<|us<|Go.ret (Unw.ret ?_)
   cases h
   exact fr rF201 j
theorem L_laws_szFaceS {a_0:(List S_Face)} {left_1:Int} {r:Int} (h:laws_szFaceS a_0 left_1=some r):FX 111 [.im 2 false [W 2 e_S_Face a_0],.im 2 false [I left_1]] (B0 [(false,[.im 0 (I r)])]):=by
 unfold laws_szFaceS at h
 refine gn 27 Try.func111 rfl ?_
 refine gs<|g0 j j (q (oAsI j j)<|nl)<|us<|gs<|g0 j j (q (oMv j j)<|q (oMv j j)<|q (oLnI j j uF54 j)<|q (oBi j j j j)<|q (oAsI j j)<|nl)<|us<|gs<|gs<|g0 j j (q (oMv j j)<|q (oBi j j j j)<|nl)<|us<|gc h j iDec (fun hc1 h=>?_) fun hc1 h=>?_
 ·refine gs<|g0 j j (q (oAsI j j)<|nl)<|us<|Go.ret (Unw.ret ?_)
  cases h
  exact fr rF111 j
 ·refine Go.skip<|us<|gs<|gs<|g0 j j (q (oAsI j j)<|nl)<|us<|Go.block<|?_
  obtain ⟨o,hl,h⟩:=bs h
  refine gl c111 j _ (fun (s:(Int×Int))=>match s with | (left_1_l5,i_5_l5)=>mk [(0,D 2 (W 2 e_S_Face a_0)),(1,iv left_1_l5),(5,iv i_5_l5)] []) (fun (o:(Int ⊕ Int)) (p:Ex×St)=>match o with | (.inl left_1_e0_5)=>p.1= .exit 0∧p.2.norm ([1],[])=mk [(1,iv left_1_e0_5)] [] | (.inr r2)=>p.1= .ret∧fin Try.prog cfg 111 Try.f111 [.im 2 false [W 2 e_S_Face a_0],.im 2 false [I left_1]] p.2=some (B0 [(false,[.im 0 (I r2)])])) hl (by kernel_rfl) ?_ ?_ ?_
  ·intro o p hp e
   rcases o with left_1_e0_5 | r2<;>exact nomatch (hp.1.symm.trans e)
  ·rintro ⟨left_1_l5,i_5_l5⟩ o h
   unfold laws_szFaceS_l5 at h
   dsimp only at h
   refine gs<|gs<|g0 j j (q (oMv j j)<|q (oMv j j)<|q (oLnI j j uF54 j)<|q (oBi j j j j)<|nl)<|us<|gc h j iDec (fun hc6 h=>?_) fun hc6 h=>?_
   ·refine Go.skip<|us<|gs<|Go.block<|gs<|?_
    obtain ⟨x20,hx20,h⟩:=bs h
    obtain ⟨x23,hx23,h⟩:=bs h
    refine g0 j j (q (oMv j j)<|q (oMv j j)<|q (oIAI j hx20 sF54 j j)<|q (oLd (cs:=[.im 2 _,.im 2 _]) j tF287 j j)<|q (oMv j j)<|q (oCa (xs:=[.v true [.im 2 _,.im 2 _],.v false [.im 0 _]]) (vs:=[(false,[.im 0 _])]) (v:=.v false [.im 0 _]) (L_laws_szFace hx23) (.inl j) j kF201_287_3 j (ppC j (ppC j pp0)) j j pb0 j j j)<|q (oAsI j j)<|nl)<|us<|gs<|g0 j j (q (oMv j j)<|q (oBi j j j j)<|nl)<|us<|gc h j iDec (fun hc7 h=>?_) fun hc7 h=>?_
    ·refine gs<|g0 j j (q (oAsI j j)<|nl)<|us<|Go.ret (Unw.ret ?_)
     cases h
     exact ⟨j,(fo rF111 j)⟩
    ·refine Go.skip<|Unw.blk<|us<|g0 j j (q (oMv j j)<|q (oBi j j j j)<|q (oAsI j j)<|nl)<|Unw.nil<|?_
     cases h
     exact ⟨j,(by kernel_rfl)⟩
   ·refine Go.exit<|ux<|Unw.nil<|?_
    cases h
    exact ⟨j,(by kernel_rfl)⟩
  ·rintro ⟨e,st⟩ hp
   rcases o with left_1_e0_5 | r2
   ·dsimp only at h
    obtain ⟨he,hst⟩:=hp
    obtain rfl:e= .exit 0:=he
    refine Unw.blkx<|us<|gs<|g2 c111 j j hst (q (oMv j j)<|q (oAsI j j)<|nl)<|us<|Go.ret (Unw.ret ?_)
    cases h
    exact fr rF111 j
   ·dsimp only at h
    obtain ⟨he,hfin⟩:=hp
    obtain rfl:e= .ret:=he
    cases h
    exact Unw.ret (Fin_ret hfin)
theorem L_laws_szDrawing {a_0:S_Drawing} {left_1:Int} {r:Int} (h:laws_szDrawing a_0 left_1=some r):FX 36 [.im 2 true (u_S_Drawing a_0),.im 2 false [I left_1]] (B0 [(false,[.im 0 (I r)])]):=by
 unfold laws_szDrawing at h
 refine gn 18 Try.func36 rfl ?_
 refine gs<|g0 j j (q (oBx j tF56 j (tkI (tkI (tkI (tkI tk0)))))<|q (oAsI j j)<|nl)<|us<|gs<|?_
 obtain ⟨x8,hx8,h⟩:=bs h
 refine g0 j j (q (oFA (r':=.mp 2 0 2) j fF56_2 j j)<|q (oLd (cs:=[.im 2 _]) j tF53 j j)<|q (oMv j j)<|q (oCa (xs:=[.v false [.im 2 _],.v false [.im 2 _]]) (vs:=[(false,[.im 0 _])]) (v:=.v false [.im 0 _]) (L_laws_szPointS hx8) (.inl j) j kF110_53_3 j (ppC j (ppC j pp0)) j j pb0 j j j)<|q (oAsI j j)<|nl)<|us<|gs<|gs<|g0 j j (q (oMv j j)<|q (oBi j j j j)<|nl)<|us<|gc h j iDec (fun hc1 h=>?_) fun hc1 h=>?_
 ·refine gs<|g0 j j (q (oAsI j j)<|nl)<|us<|Go.ret (Unw.ret ?_)
  cases h
  exact fr rF36 j
 ·refine Go.skip<|us<|gs<|?_
  obtain ⟨x14,hx14,h⟩:=bs h
  refine g0 j j (q (oFA (r':=.mp 2 0 3) j fF56_3 j j)<|q (oLd (cs:=[.im 2 _]) j tF54 j j)<|q (oMv j j)<|q (oCa (xs:=[.v false [.im 2 _],.v false [.im 0 _]]) (vs:=[(false,[.im 0 _])]) (v:=.v false [.im 0 _]) (L_laws_szFaceS hx14) (.inl j) j kF111_54_3 j (ppC j (ppC j pp0)) j j pb0 j j j)<|q (oAsI j j)<|nl)<|us<|gs<|gs<|g0 j j (q (oMv j j)<|q (oBi j j j j)<|nl)<|us<|gc h j iDec (fun hc2 h=>?_) fun hc2 h=>?_
  ·refine gs<|g0 j j (q (oAsI j j)<|nl)<|us<|Go.ret (Unw.ret ?_)
   cases h
   exact fr rF36 j
  ·refine Go.skip<|us<|gs<|g0 j j (q (oMv j j)<|q (oAsI j j)<|nl)<|us<|Go.ret (Unw.ret ?_)
   cases h
   exact fr rF36 j
theorem L_laws_toPoint {a_0:S_Point} {r:S_Point} (h:laws_toPoint a_0=some r):FX 204 [.im 2 true (u_S_Point a_0)] (B0 [(true,J 0 (u_S_Point r))]):=by
 unfold laws_toPoint at h
 refine gn 11 Try.func204 rfl ?_
 refine gs<|g0 j j (q (oBx j tF291 j (tkI (tkI tk0)))<|q (oAl j tF264 (tkI (tkI tk0)))<|nl)<|us<|gs<|g0 j j (q (oAl j tF264 (tkI (tkI tk0)))<|nl)<|us<|gs<|g0 j j (q (oFA (r':=.mp 1 0 0) j fF291_0 j j)<|q (oLd (cs:=[.im 0 _]) j tF2 j j)<|q (oFA (r':=.mp 3 0 0) j fF264_0 j j)<|q (oSt tF2 j j j (tkI tk0) j j j)<|nl)<|us<|gs<|g1 j j (mk [(1,M 1),(2,M 2),(3,M 3)] [(1,Oa (G 0 (u_S_Point a_0))),(2,Oa [C (I 0),C (I 0)]),(3,Oa [C (I a_0.X),C (I 0)])]) (q (oFA (r':=.mp 1 0 1) j fF291_1 j j)<|q (oLd (cs:=[.im 0 _]) j tF2 j j)<|q (oFA (r':=.mp 3 0 1) j fF264_1 j j)<|q (oSt tF2 j j j (tkI tk0) j j j)<|nl)<|us<|gs<|g1 j j (mk [(2,M 2),(3,M 3)] [(2,Oa [C (I 0),C (I 0)]),(3,Oa (G 0 (u_S_Point a_0)))]) (q (oLd (cs:=[.im 0 _,.im 0 _]) j tF264 j j)<|q (oSt tF264 j j j (tkI (tkI tk0)) j j j)<|nl)<|us<|Go.ret (Unw.ret ?_)
 cases h
 exact fr rF204 j
theorem L_laws_toPointS {a_0:(List S_Point)} {r:(List S_Point)} (h:laws_toPointS a_0=some r):FX 113 [.im 2 false [W 2 e_S_Point a_0]] (B0 [(false,[.ow 0 2 (List.map e_S_Point r)])]):=by
 unfold laws_toPointS at h
 refine gn 23 Try.func113 rfl ?_
 refine gs<|g0 j j (q (oAsN j j eF23)<|nl)<|us<|gs<|?_
 obtain ⟨x7,hx7,h⟩:=bs h
 refine g0 j j (q (oMv j j)<|q (oLnI j j uF53 j)<|q (oMk (en:=e_S_Point) j hx7 j sF23 j j (fxI (fxI fx0)) j (flat0 (L:=[_]) j fun _=>j))<|q (oAsO j j j j j)<|nl)<|us<|gs<|gs<|g0 j j (q (oAsI j j)<|nl)<|us<|Go.block<|?_
 obtain ⟨o,hl,h⟩:=bs h
 refine gl c113 j _ (fun (s:(Int×(List S_Point)))=>match s with | (i_4_l3,out_o3_l3)=>mk [(0,D 2 (W 2 e_S_Point a_0)),(3,H 3 0),(4,iv i_4_l3)] [(3,Oc [Z (W 2 e_S_Point out_o3_l3)])]) (fun (out_o3_e0_3:(List S_Point)) (p:Ex×St)=>p.1= .exit 0∧p.2.norm ([3],[3])=mk [(3,H 3 0)] [(3,Oc [Z (W 2 e_S_Point out_o3_e0_3)])]) hl (by kernel_rfl) ?_ ?_ ?_
 ·intro o p hp e
  exact nomatch (hp.1.symm.trans e)
 ·rintro ⟨i_4_l3,out_o3_l3⟩ o h
  unfold laws_toPointS_l3 at h
  dsimp only at h
  refine gs<|gs<|g0 j j (q (oMv j j)<|q (oMv j j)<|q (oLnI j j uF53 j)<|q (oBi j j j j)<|nl)<|us<|gc h j iDec (fun hc3 h=>?_) fun hc3 h=>?_
  ·refine Go.skip<|us<|gs<|Go.block<|?_
   obtain ⟨x18,hx18,h⟩:=bs h
   obtain ⟨x20,hx20,h⟩:=bs h
   obtain ⟨x21,hx21,h⟩:=bs h
   refine g0 j j (q (oMv j j)<|q (oMv j j)<|q (oMv j j)<|q (oMv j j)<|q (oIAI j hx18 sF53 j j)<|q (oLd (cs:=[.im 2 _,.im 2 _]) j tF291 j j)<|q (oCa (xs:=[.v true [.im 2 _,.im 2 _]]) (vs:=[(true,[.im 0 _,.im 0 _])]) (v:=.v true [.im 0 _,.im 0 _]) (L_laws_toPoint hx20) (.inl j) j kF204_291 j (ppC j pp0) j j pb0 j j j)<|q (oIAO j hx21 sF23 j j j j)<|q (oStE (v':=x20) tF264 j j j (fxI (fxI fx0)) j j (rd_get hx21) j)<|nl)<|Unw.blk<|us<|g1 j j (mk [(0,D 2 (W 2 e_S_Point a_0)),(3,H 3 0),(4,iv i_4_l3)] [(3,Oc [Z (W 2 e_S_Point (out_o3_l3.set i_4_l3.toNat x20))])]) (q (oMv j j)<|q (oBi j j j j)<|q (oAsI j j)<|nl)<|Unw.nil<|?_
   cases h
   exact ⟨j,(by kernel_rfl)⟩
  ·refine Go.exit<|ux<|Unw.nil<|?_
   cases h
   exact ⟨j,(by kernel_rfl)⟩
 ·rintro ⟨e,st⟩ hp
  obtain ⟨out_o3_e0_3,rfl⟩:∃y,y=o:=⟨o,rfl⟩
  obtain ⟨he,hst⟩:=hp
  obtain rfl:e= .exit 0:=he
  refine Unw.blkx<|us<|gs<|g2 c113 j j hst (q (oMv j j)<|q (oAsO j j j j j)<|nl)<|us<|Go.ret (Unw.ret ?_)
  cases h
  exact fr rF113 j
theorem L_laws_toInt64S {a_0:(List Int)} {r:(List Int)} (h:laws_toInt64S a_0=some r):FX 134 [.im 2 false [W 1 eI a_0]] (B0 [(false,[.ow 0 1 (List.map eI r)])]):=by
 unfold laws_toInt64S at h
 refine gn 22 Try.func134 rfl ?_
 refine gs<|g0 j j (q (oAsN j j eF28)<|nl)<|us<|gs<|?_
 obtain ⟨x7,hx7,h⟩:=bs h
 refine g0 j j (q (oMv j j)<|q (oLnI j j uF28 j)<|q (oMk (en:=eI) j hx7 j sF28 j j (fxI fx0) j (flat0 (L:=[_]) j fun _=>j))<|q (oAsO j j j j j)<|nl)<|us<|gs<|gs<|g0 j j (q (oAsI j j)<|nl)<|us<|Go.block<|?_
 obtain ⟨o,hl,h⟩:=bs h
 refine gl c134 j _ (fun (s:(Int×(List Int)))=>match s with | (i_4_l3,out_o3_l3)=>mk [(0,D 2 (W 1 eI a_0)),(3,H 3 0),(4,iv i_4_l3)] [(3,Oc [Z (W 1 eI out_o3_l3)])]) (fun (out_o3_e0_3:(List Int)) (p:Ex×St)=>p.1= .exit 0∧p.2.norm ([3],[3])=mk [(3,H 3 0)] [(3,Oc [Z (W 1 eI out_o3_e0_3)])]) hl (by kernel_rfl) ?_ ?_ ?_
 ·intro o p hp e
  exact nomatch (hp.1.symm.trans e)
 ·rintro ⟨i_4_l3,out_o3_l3⟩ o h
  unfold laws_toInt64S_l3 at h
  dsimp only at h
  refine gs<|gs<|g0 j j (q (oMv j j)<|q (oMv j j)<|q (oLnI j j uF28 j)<|q (oBi j j j j)<|nl)<|us<|gc h j iDec (fun hc3 h=>?_) fun hc3 h=>?_
  ·refine Go.skip<|us<|gs<|Go.block<|?_
   obtain ⟨x18,hx18,h⟩:=bs h
   obtain ⟨x20,hx20,h⟩:=bs h
   refine g0 j j (q (oMv j j)<|q (oMv j j)<|q (oMv j j)<|q (oMv j j)<|q (oIAI j hx18 sF28 j j)<|q (oLd (cs:=[.im 2 _]) j tF2 j j)<|q (oIAO j hx20 sF28 j j j j)<|q (oStE (v':=x18) tF2 j j j (fxI fx0) j j (rd_get hx20) j)<|nl)<|Unw.blk<|us<|g1 j j (mk [(0,D 2 (W 1 eI a_0)),(3,H 3 0),(4,iv i_4_l3)] [(3,Oc [Z (W 1 eI (out_o3_l3.set i_4_l3.toNat x18))])]) (q (oMv j j)<|q (oBi j j j j)<|q (oAsI j j)<|nl)<|Unw.nil<|?_
   cases h
   exact ⟨j,(by kernel_rfl)⟩
  ·refine Go.exit<|ux<|Unw.nil<|?_
   cases h
   exact ⟨j,(by kernel_rfl)⟩
 ·rintro ⟨e,st⟩ hp
  obtain ⟨out_o3_e0_3,rfl⟩:∃y,y=o:=⟨o,rfl⟩
  obtain ⟨he,hst⟩:=hp
  obtain rfl:e= .exit 0:=he
  refine Unw.blkx<|us<|gs<|g2 c134 j j hst (q (oMv j j)<|q (oAsO j j j j j)<|nl)<|us<|Go.ret (Unw.ret ?_)
  cases h
  exact fr rF134 j
theorem L_laws_toFace {a_0:S_Face} {r:S_Face} (h:laws_toFace a_0=some r):FX 205 [.im 2 true (u_S_Face a_0)] (B0 [(true,[.im 0 (Y r.Name),.ow 0 1 (List.map eI r.Ring)])]):=by
 unfold laws_toFace at h
 refine gn 12 Try.func205 rfl ?_
 refine gs<|g0 j j (q (oBx j tF287 j (tkI (tkI tk0)))<|q (oAl j tF257 (tkI (tkN tk0)))<|nl)<|us<|gs<|g0 j j (q (oAl j tF257 (tkI (tkN tk0)))<|nl)<|us<|gs<|g0 j j (q (oFA (r':=.mp 1 0 0) j fF287_0 j j)<|q (oLd (cs:=[.im 0 _]) j tF9 j j)<|q (oFA (r':=.mp 3 0 0) j fF257_0 j j)<|q (oSt tF9 j j j (tkI tk0) j j j)<|nl)<|us<|gs<|?_
 obtain ⟨x9,hx9,h⟩:=bs h
 refine g1 j j (mk [(1,M 1),(2,M 2),(3,M 3)] [(1,Oa (G 2 (u_S_Face a_0))),(2,Oa [C (Y (⟨#[]⟩:ByteArray)),Z (W 1 eI ([]:List Int))]),(3,Oa [C (Y a_0.Name),Z (W 1 eI ([]:List Int))])]) (q (oFA (r':=.mp 1 0 1) j fF287_1 j j)<|q (oLd (cs:=[.im 2 _]) j tF28 j j)<|q (oCr (xs:=[.v false [.im 2 _]]) (vs:=[(false,[.own 9 0 0])]) (v:=.v false [.own 9 0 0]) (c:=⟨.sh,0,_⟩) (cs:=[]) (L_laws_toInt64S hx9) (.inl j) j kF134_28 j (ppC j pp0) j j pb0 j j j)<|q (oFA (r':=.mp 3 0 1) j fF257_1 j j)<|q (oSt tF28 j j j (tkO j j tk0) j j j)<|nl)<|us<|gs<|g1 j j (mk [(2,M 2),(3,M 3)] [(2,Oa [C (Y (⟨#[]⟩:ByteArray)),Z (W 1 eI ([]:List Int))]),(3,Oa [C (Y a_0.Name),Z (W 1 eI x9)])]) (q (oLd (cs:=[.im 0 _,.own 3 0 1]) j tF257 j j)<|q (oSt tF257 j j j (tkI (tkO j j tk0)) j j j)<|nl)<|us<|Go.ret (Unw.ret ?_)
 cases h
 exact fr rF205 j
theorem L_laws_toFaceS {a_0:(List S_Face)} {r:(List S_Face)} (h:laws_toFaceS a_0=some r):FX 114 [.im 2 false [W 2 e_S_Face a_0]] (B0 [(false,[.ow 0 2 (List.map e_S_Face r)])]):=by
 unfold laws_toFaceS at h
 refine gn 23 Try.func114 rfl ?_
 refine gs<|g0 j j (q (oAsN j j eF24)<|nl)<|us<|gs<|?_
 obtain ⟨x7,hx7,h⟩:=bs h
 refine g0 j j (q (oMv j j)<|q (oLnI j j uF54 j)<|q (oMk (en:=e_S_Face) j hx7 j sF24 j j (fxI (fxN fx0)) j (flat1 j))<|q (oAsO j j j j j)<|nl)<|us<|gs<|gs<|g0 j j (q (oAsI j j)<|nl)<|us<|Go.block<|?_
 obtain ⟨o,hl,h⟩:=bs h
 refine gl c114 j _ (fun (s:(Int×(List S_Face)))=>match s with | (i_4_l3,out_o3_l3)=>mk [(0,D 2 (W 2 e_S_Face a_0)),(3,H 3 0),(4,iv i_4_l3)] [(3,Oc [Z (W 2 e_S_Face out_o3_l3)])]) (fun (out_o3_e0_3:(List S_Face)) (p:Ex×St)=>p.1= .exit 0∧p.2.norm ([3],[3])=mk [(3,H 3 0)] [(3,Oc [Z (W 2 e_S_Face out_o3_e0_3)])]) hl (by kernel_rfl) ?_ ?_ ?_
 ·intro o p hp e
  exact nomatch (hp.1.symm.trans e)
 ·rintro ⟨i_4_l3,out_o3_l3⟩ o h
  unfold laws_toFaceS_l3 at h
  dsimp only at h
  refine gs<|gs<|g0 j j (q (oMv j j)<|q (oMv j j)<|q (oLnI j j uF54 j)<|q (oBi j j j j)<|nl)<|us<|gc h j iDec (fun hc3 h=>?_) fun hc3 h=>?_
  ·refine Go.skip<|us<|gs<|Go.block<|?_
   obtain ⟨x18,hx18,h⟩:=bs h
   obtain ⟨x20,hx20,h⟩:=bs h
   obtain ⟨x21,hx21,h⟩:=bs h
   refine g0 j j (q (oMv j j)<|q (oMv j j)<|q (oMv j j)<|q (oMv j j)<|q (oIAI j hx18 sF54 j j)<|q (oLd (cs:=[.im 2 _,.im 2 _]) j tF287 j j)<|q (oCr (xs:=[.v true [.im 2 _,.im 2 _]]) (vs:=[(true,[.im 0 _,.own 20 0 0])]) (v:=.v true [.im 0 _,.own 20 0 0]) (c:=⟨.sh,0,_⟩) (cs:=[]) (L_laws_toFace hx20) (.inl j) j kF205_287 j (ppC j pp0) j j pb0 j j j)<|q (oIAO j hx21 sF24 j j j j)<|q (oStE (v':=x20) tF257 j j j (fxI (fxO j j fx0)) j j (rd_get hx21) j)<|nl)<|Unw.blk<|us<|g1 j j (mk [(0,D 2 (W 2 e_S_Face a_0)),(3,H 3 0),(4,iv i_4_l3)] [(3,Oc [Z (W 2 e_S_Face (out_o3_l3.set i_4_l3.toNat x20))])]) (q (oMv j j)<|q (oBi j j j j)<|q (oAsI j j)<|nl)<|Unw.nil<|?_
   cases h
   exact ⟨j,(by kernel_rfl)⟩
  ·refine Go.exit<|ux<|Unw.nil<|?_
   cases h
   exact ⟨j,(by kernel_rfl)⟩
 ·rintro ⟨e,st⟩ hp
  obtain ⟨out_o3_e0_3,rfl⟩:∃y,y=o:=⟨o,rfl⟩
  obtain ⟨he,hst⟩:=hp
  obtain rfl:e= .exit 0:=he
  refine Unw.blkx<|us<|gs<|g2 c114 j j hst (q (oMv j j)<|q (oAsO j j j j j)<|nl)<|us<|Go.ret (Unw.ret ?_)
  cases h
  exact fr rF114 j
theorem L_laws_toDrawing {a_0:S_Drawing} {r:S_Drawing} (h:laws_toDrawing a_0=some r):FX 38 [.im 2 true (u_S_Drawing a_0)] (B0 [(true,[.im 0 (I r.Width),.im 0 (I r.Height),.ow 0 2 (List.map e_S_Point r.Points),.ow 0 2 (List.map e_S_Face r.Faces)])]):=by
 unfold laws_toDrawing at h
 refine gn 19 Try.func38 rfl ?_
 refine gs<|g0 j j (q (oBx j tF56 j (tkI (tkI (tkI (tkI tk0)))))<|q (oAl j tF26 (tkI (tkI (tkN (tkN tk0)))))<|nl)<|us<|gs<|g0 j j (q (oAl j tF26 (tkI (tkI (tkN (tkN tk0)))))<|nl)<|us<|gs<|g0 j j (q (oFA (r':=.mp 1 0 0) j fF56_0 j j)<|q (oLd (cs:=[.im 0 _]) j tF2 j j)<|q (oFA (r':=.mp 3 0 0) j fF26_0 j j)<|q (oSt tF2 j j j (tkI tk0) j j j)<|nl)<|us<|gs<|g1 j j (mk [(1,M 1),(2,M 2),(3,M 3)] [(1,Oa (G 2 (u_S_Drawing a_0))),(2,Oa [C (I 0),C (I 0),Z (W 2 e_S_Point ([]:List S_Point)),Z (W 2 e_S_Face ([]:List S_Face))]),(3,Oa [C (I a_0.Width),C (I 0),Z (W 2 e_S_Point ([]:List S_Point)),Z (W 2 e_S_Face ([]:List S_Face))])]) (q (oFA (r':=.mp 1 0 1) j fF56_1 j j)<|q (oLd (cs:=[.im 0 _]) j tF2 j j)<|q (oFA (r':=.mp 3 0 1) j fF26_1 j j)<|q (oSt tF2 j j j (tkI tk0) j j j)<|nl)<|us<|gs<|?_
 obtain ⟨x12,hx12,h⟩:=bs h
 refine g1 j j (mk [(1,M 1),(2,M 2),(3,M 3)] [(1,Oa (G 2 (u_S_Drawing a_0))),(2,Oa [C (I 0),C (I 0),Z (W 2 e_S_Point ([]:List S_Point)),Z (W 2 e_S_Face ([]:List S_Face))]),(3,Oa [C (I a_0.Width),C (I a_0.Height),Z (W 2 e_S_Point ([]:List S_Point)),Z (W 2 e_S_Face ([]:List S_Face))])]) (q (oFA (r':=.mp 1 0 2) j fF56_2 j j)<|q (oLd (cs:=[.im 2 _]) j tF53 j j)<|q (oCr (xs:=[.v false [.im 2 _]]) (vs:=[(false,[.own 12 0 0])]) (v:=.v false [.own 12 0 0]) (c:=⟨.sh,0,_⟩) (cs:=[]) (L_laws_toPointS hx12) (.inl j) j kF113_53 j (ppC j pp0) j j pb0 j j j)<|q (oFA (r':=.mp 3 0 2) j fF26_2 j j)<|q (oSt tF23 j j j (tkO j j tk0) j j j)<|nl)<|us<|gs<|?_
 obtain ⟨x16,hx16,h⟩:=bs h
 refine g1 j j (mk [(1,M 1),(2,M 2),(3,M 3)] [(1,Oa (G 2 (u_S_Drawing a_0))),(2,Oa [C (I 0),C (I 0),Z (W 2 e_S_Point ([]:List S_Point)),Z (W 2 e_S_Face ([]:List S_Face))]),(3,Oa [C (I a_0.Width),C (I a_0.Height),Z (W 2 e_S_Point x12),Z (W 2 e_S_Face ([]:List S_Face))])]) (q (oFA (r':=.mp 1 0 3) j fF56_3 j j)<|q (oLd (cs:=[.im 2 _]) j tF54 j j)<|q (oCr (xs:=[.v false [.im 2 _]]) (vs:=[(false,[.own 16 0 0])]) (v:=.v false [.own 16 0 0]) (c:=⟨.sh,0,_⟩) (cs:=[]) (L_laws_toFaceS hx16) (.inl j) j kF114_54 j (ppC j pp0) j j pb0 j j j)<|q (oFA (r':=.mp 3 0 3) j fF26_3 j j)<|q (oSt tF24 j j j (tkO j j tk0) j j j)<|nl)<|us<|gs<|g1 j j (mk [(2,M 2),(3,M 3)] [(2,Oa [C (I 0),C (I 0),Z (W 2 e_S_Point ([]:List S_Point)),Z (W 2 e_S_Face ([]:List S_Face))]),(3,Oa [C (I a_0.Width),C (I a_0.Height),Z (W 2 e_S_Point x12),Z (W 2 e_S_Face x16)])]) (q (oLd (cs:=[.im 0 _,.im 0 _,.own 3 0 2,.own 3 0 3]) j tF26 j j)<|q (oSt tF26 j j j (tkI (tkI (tkO j j (tkO j j tk0)))) j j j)<|nl)<|us<|Go.ret (Unw.ret ?_)
 cases h
 exact fr rF38 j
theorem L_spec_l00In {n_0:Int} {low_1:Int} {high_2:Int} {r:Bool} (h:spec_l00In n_0 low_1 high_2=some r):FX 94 [.im 2 false [I n_0],.im 2 false [I low_1],.im 2 false [I high_2]] (B0 [(false,[.im 0 (V r)])]):=by
 unfold spec_l00In at h
 refine gn 15 Try.func94 rfl ?_
 refine gs<|g0 j j (q (oAsI j j)<|nl)<|us<|gs<|gX c94 j j j (mk [(6,bv ((decide (n_0≥low_1))&&(decide (n_0≤high_2))))] []) ?_ ?_
 ·refine xq (oMv j j)<|xq (oMv j j)<|xq (oBi j j j j)<|xq (oMv j j)<|?_
  by_cases hc1:n_0≥low_1
  ·exact xqT rfl rfl (iDec.2 hc1) (oMv rfl rfl)<|xqT rfl rfl (iDec.2 hc1) (oMv rfl rfl)<|xqT rfl rfl (iDec.2 hc1) (oBi rfl rfl rfl rfl)<|xq (oPkT rfl rfl (iDec.2 hc1) rfl)<|xq (oAsI rfl rfl)<|xn (Eq.trans (b:=(fun t_6_m1:Bool=>mk [(6,bv t_6_m1)] []) (decide (n_0≤high_2))) (by kernel_rfl) (congrArg (fun t_6_m1:Bool=>mk [(6,bv t_6_m1)] []) (by first | rfl | (simp [(iDec.2 hc1)];done) | (simp [(iDec.2 hc1)];omega))))
  ·exact xsgF rfl rfl (byF iDec hc1) rfl<|xsgF rfl rfl (byF iDec hc1) rfl<|xsgF rfl rfl (byF iDec hc1) rfl<|xq (oPkF rfl rfl (byF iDec hc1) rfl)<|xq (oAsI rfl rfl)<|xn (Eq.trans (b:=(fun t_6_m1:Bool=>mk [(6,bv t_6_m1)] []) false) (by kernel_rfl) (congrArg (fun t_6_m1:Bool=>mk [(6,bv t_6_m1)] []) (by first | rfl | (simp [(byF iDec hc1)];done) | (simp [(byF iDec hc1)];omega))))
 ·refine us<|Go.ret (Unw.ret ?_)
  cases h
  exact fr rF94 j
theorem L_spec_l05Points {d_0:S_Drawing} {r:Bool} (h:spec_l05Points d_0=some r):FX 171 [.im 2 false [.cp (u_S_Drawing d_0) 0]] (B0 [(false,[.im 0 (V r)])]):=by
 unfold spec_l05Points at h
 refine gn 70 Try.func171 rfl ?_
 refine gs<|g0 j j (q (oAsI j j)<|nl)<|us<|gs<|gs<|g0 j j (q (oMv j j)<|q (oNl j j j)<|q (oFA (r':=.im 2 _) j fF26_2 j j)<|q (oLd (cs:=[.im 2 _]) j tF23 j j)<|q (oLnI j j uF23 j)<|q (oBi j j j j)<|nl)<|us<|gc h j iDec (fun hc1 h=>?_) fun hc1 h=>?_
 ·refine gs<|g0 j j (q (oAsI j j)<|nl)<|us<|Go.ret (Unw.ret ?_)
  cases h
  exact fr rF171 j
 ·refine Go.skip<|us<|gs<|gs<|g0 j j (q (oAsI j j)<|nl)<|us<|Go.block<|?_
  obtain ⟨o,hl,h⟩:=bs h
  refine gl c171 j _ (fun (i_3_l4:Int)=>mk [(0,D 2 (.cp (u_S_Drawing d_0) 0)),(3,iv i_3_l4)] []) (fun (o:(Unit ⊕ Bool)) (p:Ex×St)=>match o with | (.inl _)=>p.1= .exit 0∧p.2.norm ([],[])=mk [] [] | (.inr r2)=>p.1= .ret∧fin Try.prog cfg 171 Try.f171 [.im 2 false [.cp (u_S_Drawing d_0) 0]] p.2=some (B0 [(false,[.im 0 (V r2)])])) hl (by kernel_rfl) ?_ ?_ ?_
  ·intro o p hp e
   rcases o with u | r2<;>exact nomatch (hp.1.symm.trans e)
  ·rintro i_3_l4 o h
   unfold spec_l05Points_l4 at h
   refine gs<|gs<|g0 j j (q (oMv j j)<|q (oMv j j)<|q (oNl j j j)<|q (oFA (r':=.im 2 _) j fF26_2 j j)<|q (oLd (cs:=[.im 2 _]) j tF23 j j)<|q (oLnI j j uF23 j)<|q (oBi j j j j)<|nl)<|us<|gc h j iDec (fun hc18 h=>?_) fun hc18 h=>?_
   ·refine Go.skip<|us<|gs<|Go.block<|gs<|gs<|?_
    obtain ⟨x25,hx25,h⟩:=bs h
    obtain ⟨x32,hx32,h⟩:=bs h
    obtain ⟨t_49_m6,hm27,h⟩:=bs h
    refine gd c171 j j j j (mk [(0,D 2 (.cp (u_S_Drawing d_0) 0)),(3,iv i_3_l4),(49,bv t_49_m6)] []) ?_ ?_
    ·refine t j j (oMv j j)<|t j j (oNl j j j)<|t j j (oFA (r':=.im 2 _) j fF26_2 j j)<|t j j (oLd (cs:=[.im 2 _]) j tF23 j j)<|t j j (oMv j j)<|t j j (oIAI j hx25 sF23 j j)<|t j j (oFA (r':=.im 2 _) j fF264_0 j j)<|t j j (oLd (cs:=[.im 2 _]) j tF2 j j)<|t j j (oMv j j)<|t j j (oNl j j j)<|t j j (oFA (r':=.im 2 _) j fF26_0 j j)<|?_
     refine ic hm27 (fun hc19 hm27=>?_) fun hc19 hm27=>?_
     ·obtain ⟨x40,hx40,hm27⟩:=bs hm27
      obtain ⟨x47,hx47,hm27⟩:=bs hm27
      cases hm27
      exact t j j (oLd (cs:=[.im 2 _]) j tF2 j j)<|sS (dN z171 j (oCa (xs:=[.v false [.im 2 _],.v false [.im 0 _],.v false [.im 2 _]]) (vs:=[(false,[.im 0 _])]) (v:=.v false [.im 0 _]) (L_spec_l00In hx32) (.inl j) j kF94_2_2_2 j (ppC j (ppC j (ppC j pp0))) j j pb0 j j j)) trivial (t j j (oUn j j j)<|t j j (oMv j j)<|tT j j j j (nF (iR.2 hc19)) (oMv j j)<|tT j j j j (nF (iR.2 hc19)) (oNl j j j)<|tT j j j j (nF (iR.2 hc19)) (oFA (r':=.im 2 _) j fF26_2 j j)<|tT j j j j (nF (iR.2 hc19)) (oLd (cs:=[.im 2 _]) j tF23 j j)<|tT j j j j (nF (iR.2 hc19)) (oMv j j)<|tT j j j j (nF (iR.2 hc19)) (oIAI j hx40 sF23 j j)<|tT j j j j (nF (iR.2 hc19)) (oFA (r':=.im 2 _) j fF264_1 j j)<|tT j j j j (nF (iR.2 hc19)) (oLd (cs:=[.im 2 _]) j tF2 j j)<|tT j j j j (nF (iR.2 hc19)) (oMv j j)<|tT j j j j (nF (iR.2 hc19)) (oNl j j j)<|tT j j j j (nF (iR.2 hc19)) (oFA (r':=.im 2 _) j fF26_1 j j)<|tT j j j j (nF (iR.2 hc19)) (oLd (cs:=[.im 2 _]) j tF2 j j)<|sS (dT z171 j j j (nF (iR.2 hc19)) (oCa (xs:=[.v false [.im 2 _],.v false [.im 0 _],.v false [.im 2 _]]) (vs:=[(false,[.im 0 _])]) (v:=.v false [.im 0 _]) (L_spec_l00In hx47) (.inl j) j kF94_2_2_2 j (ppC j (ppC j (ppC j pp0))) j j pb0 j j j)) trivial (tT j j j j (nF (iR.2 hc19)) (oUn j j j)<|t j j (oPkF j j (nF (iR.2 hc19)) j)<|sD (by kernel_rfl)))
     ·cases hm27
      exact t j j (oLd (cs:=[.im 2 _]) j tF2 j j)<|sS (dN z171 j (oCa (xs:=[.v false [.im 2 _],.v false [.im 0 _],.v false [.im 2 _]]) (vs:=[(false,[.im 0 _])]) (v:=.v false [.im 0 _]) (L_spec_l00In hx32) (.inl j) j kF94_2_2_2 j (ppC j (ppC j (ppC j pp0))) j j pb0 j j j)) trivial (t j j (oUn j j j)<|t j j (oMv j j)<|tF j j j j (nT (byF iR hc19)) j<|tF j j j j (nT (byF iR hc19)) j<|tF j j j j (nT (byF iR hc19)) j<|tF j j j j (nT (byF iR hc19)) j<|tF j j j j (nT (byF iR hc19)) j<|tF j j j j (nT (byF iR hc19)) j<|tF j j j j (nT (byF iR hc19)) j<|tF j j j j (nT (byF iR hc19)) j<|tF j j j j (nT (byF iR hc19)) j<|tF j j j j (nT (byF iR hc19)) j<|tF j j j j (nT (byF iR hc19)) j<|tF j j j j (nT (byF iR hc19)) j<|sS (dF j j j (nT (byF iR hc19)) j) trivial (tF j j j j (nT (byF iR hc19)) j<|t j j (oPkT j j (nT (byF iR hc19)) j)<|sD (by kernel_rfl)))
    ·refine us<|gc h j iR (fun hc20 h=>?_) fun hc20 h=>?_
     ·refine gs<|g0 j j (q (oAsI j j)<|nl)<|us<|Go.ret (Unw.ret ?_)
      cases h
      exact ⟨j,(fo rF171 j)⟩
     ·refine Go.skip<|us<|gs<|g0 j j (q (oAsI j j)<|nl)<|us<|Go.block<|?_
      obtain ⟨o,hl,h⟩:=bs h
      refine gl c171 j _ (fun (k_4_l9:Int)=>mk [(0,D 2 (.cp (u_S_Drawing d_0) 0)),(3,iv i_3_l4),(4,iv k_4_l9)] []) (fun (o:(Unit ⊕ Bool)) (p:Ex×St)=>match o with | (.inl _)=>p.1= .exit 2∧p.2.norm ([0,3],[])=mk [(0,D 2 (.cp (u_S_Drawing d_0) 0)),(3,iv i_3_l4)] [] | (.inr r2)=>p.1= .ret∧fin Try.prog cfg 171 Try.f171 [.im 2 false [.cp (u_S_Drawing d_0) 0]] p.2=some (B0 [(false,[.im 0 (V r2)])])) hl (by kernel_rfl) ?_ ?_ ?_
      ·intro o p hp e
       rcases o with u | r2<;>exact nomatch (hp.1.symm.trans e)
      ·rintro k_4_l9 o h
       unfold spec_l05Points_l9 at h
       refine gs<|gs<|g0 j j (q (oMv j j)<|q (oMv j j)<|q (oBi j j j j)<|nl)<|us<|gc h j iDec (fun hc25 h=>?_) fun hc25 h=>?_
       ·refine Go.skip<|us<|gs<|Go.block<|gs<|?_
        obtain ⟨x60,hx60,h⟩:=bs h
        obtain ⟨x67,hx67,h⟩:=bs h
        refine gd c171 j j j j (mk [(0,D 2 (.cp (u_S_Drawing d_0) 0)),(3,iv i_3_l4),(4,iv k_4_l9),(69,bv ((x60.X==x67.X)&&(x60.Y==x67.Y)))] []) (t j j (oMv j j)<|t j j (oNl j j j)<|t j j (oFA (r':=.im 2 _) j fF26_2 j j)<|t j j (oLd (cs:=[.im 2 _]) j tF23 j j)<|t j j (oMv j j)<|t j j (oIAI j hx60 sF23 j j)<|t j j (oLd (cs:=[.im 2 _,.im 2 _]) j tF264 j j)<|t j j (oMv j j)<|t j j (oNl j j j)<|t j j (oFA (r':=.im 2 _) j fF26_2 j j)<|t j j (oLd (cs:=[.im 2 _]) j tF23 j j)<|t j j (oMv j j)<|t j j (oIAI j hx67 sF23 j j)<|t j j (oLd (cs:=[.im 2 _,.im 2 _]) j tF264 j j)<|t j j (oBa j (qEF264 x60.X x60.Y x67.X x67.Y) j j j j)<|sD (by kernel_rfl))<|us<|gc h j (iAnd iEq iEq) (fun hc26 h=>?_) fun hc26 h=>?_
        ·refine gs<|g0 j j (q (oAsI j j)<|nl)<|us<|Go.ret (Unw.ret ?_)
         cases h
         exact ⟨j,(fo rF171 j)⟩
        ·refine Go.skip<|Unw.blk<|us<|g0 j j (q (oMv j j)<|q (oBi j j j j)<|q (oAsI j j)<|nl)<|Unw.nil<|?_
         cases h
         exact ⟨j,(by kernel_rfl)⟩
       ·refine Go.exit<|ux<|Unw.nil<|?_
        cases h
        exact ⟨j,(by kernel_rfl)⟩
      ·rintro ⟨e,st⟩ hp
       rcases o with u | r2
       ·dsimp only at h
        obtain ⟨he,hst⟩:=hp
        obtain rfl:e= .exit 2:=he
        refine Unw.blkx<|Unw.blk<|us<|g2 c171 j j hst (q (oMv j j)<|q (oBi j j j j)<|q (oAsI j j)<|nl)<|Unw.nil<|?_
        cases h
        exact ⟨j,(by kernel_rfl)⟩
       ·dsimp only at h
        obtain ⟨he,hfin⟩:=hp
        obtain rfl:e= .ret:=he
        cases h
        exact Unw.ret ⟨j,hfin⟩
   ·refine Go.exit<|ux<|Unw.nil<|?_
    cases h
    exact ⟨j,(by kernel_rfl)⟩
  ·rintro ⟨e,st⟩ hp
   rcases o with u | r2
   ·dsimp only at h
    obtain ⟨he,hst⟩:=hp
    obtain rfl:e= .exit 0:=he
    refine Unw.blkx<|us<|gs<|g2 c171 j j hst (q (oAsI j j)<|nl)<|us<|Go.ret (Unw.ret ?_)
    cases h
    exact fr rF171 j
   ·dsimp only at h
    obtain ⟨he,hfin⟩:=hp
    obtain rfl:e= .ret:=he
    cases h
    exact Unw.ret (Fin_ret hfin)
theorem L_spec_l01Small {c_0:Int} {r:Bool} (h:spec_l01Small c_0=some r):FX 268 [.im 2 false [.sc (.int .u8 c_0)]] (B0 [(false,[.im 0 (V r)])]):=by
 unfold spec_l01Small at h
 refine gn 9 Try.func268 rfl ?_
 refine gs<|g0 j j (q (oAsI j j)<|nl)<|us<|gs<|gX c268 j j j (mk [(2,bv ((decide (c_0≥97))&&(decide (c_0≤122))))] []) ?_ ?_
 ·refine xq (oMv j j)<|xq (oBi j j j j)<|xq (oMv j j)<|?_
  by_cases hc1:c_0≥97
  ·exact xqT rfl rfl (iDec.2 hc1) (oMv rfl rfl)<|xqT rfl rfl (iDec.2 hc1) (oBi rfl rfl rfl rfl)<|xq (oPkT rfl rfl (iDec.2 hc1) rfl)<|xq (oAsI rfl rfl)<|xn (Eq.trans (b:=(fun t_2_m1:Bool=>mk [(2,bv t_2_m1)] []) (decide (c_0≤122))) (by kernel_rfl) (congrArg (fun t_2_m1:Bool=>mk [(2,bv t_2_m1)] []) (by first | rfl | (simp [(iDec.2 hc1)];done) | (simp [(iDec.2 hc1)];omega))))
  ·exact xsgF rfl rfl (byF iDec hc1) rfl<|xsgF rfl rfl (byF iDec hc1) rfl<|xq (oPkF rfl rfl (byF iDec hc1) rfl)<|xq (oAsI rfl rfl)<|xn (Eq.trans (b:=(fun t_2_m1:Bool=>mk [(2,bv t_2_m1)] []) false) (by kernel_rfl) (congrArg (fun t_2_m1:Bool=>mk [(2,bv t_2_m1)] []) (by first | rfl | (simp [(byF iDec hc1)];done) | (simp [(byF iDec hc1)];omega))))
 ·refine us<|Go.ret (Unw.ret ?_)
  cases h
  exact fr rF268 j
theorem L_spec_l01Digit {c_0:Int} {r:Bool} (h:spec_l01Digit c_0=some r):FX 269 [.im 2 false [.sc (.int .u8 c_0)]] (B0 [(false,[.im 0 (V r)])]):=by
 unfold spec_l01Digit at h
 refine gn 9 Try.func269 rfl ?_
 refine gs<|g0 j j (q (oAsI j j)<|nl)<|us<|gs<|gX c269 j j j (mk [(2,bv ((decide (c_0≥48))&&(decide (c_0≤57))))] []) ?_ ?_
 ·refine xq (oMv j j)<|xq (oBi j j j j)<|xq (oMv j j)<|?_
  by_cases hc1:c_0≥48
  ·exact xqT rfl rfl (iDec.2 hc1) (oMv rfl rfl)<|xqT rfl rfl (iDec.2 hc1) (oBi rfl rfl rfl rfl)<|xq (oPkT rfl rfl (iDec.2 hc1) rfl)<|xq (oAsI rfl rfl)<|xn (Eq.trans (b:=(fun t_2_m1:Bool=>mk [(2,bv t_2_m1)] []) (decide (c_0≤57))) (by kernel_rfl) (congrArg (fun t_2_m1:Bool=>mk [(2,bv t_2_m1)] []) (by first | rfl | (simp [(iDec.2 hc1)];done) | (simp [(iDec.2 hc1)];omega))))
  ·exact xsgF rfl rfl (byF iDec hc1) rfl<|xsgF rfl rfl (byF iDec hc1) rfl<|xq (oPkF rfl rfl (byF iDec hc1) rfl)<|xq (oAsI rfl rfl)<|xn (Eq.trans (b:=(fun t_2_m1:Bool=>mk [(2,bv t_2_m1)] []) false) (by kernel_rfl) (congrArg (fun t_2_m1:Bool=>mk [(2,bv t_2_m1)] []) (by first | rfl | (simp [(byF iDec hc1)];done) | (simp [(byF iDec hc1)];omega))))
 ·refine us<|Go.ret (Unw.ret ?_)
  cases h
  exact fr rF269 j
theorem L_spec_l01Name {s_0:ByteArray} {r:Bool} (h:spec_l01Name s_0=some r):FX 172 [.im 2 false [Y s_0]] (B0 [(false,[.im 0 (V r)])]):=by
 unfold spec_l01Name at h
 refine gn 35 Try.func172 rfl ?_
 refine gs<|g0 j j (q (oAsI j j)<|nl)<|us<|gs<|gs<|?_
 obtain ⟨t_16_m1,hm16,h⟩:=bs h
 refine gX c172 j j j (mk [(0,sv s_0),(16,bv t_16_m1)] []) ?_ ?_
 ·refine xq (oMv j j)<|xq (oBi j j j j)<|xq (oMv j j)<|?_
  refine ic hm16 (fun hc1 hm16=>?_) fun hc1 hm16=>?_
  ·cases hm16
   exact xsgF j j (iStr.2 hc1) j<|xsgF j j (iStr.2 hc1) j<|xsgF j j (iStr.2 hc1) j<|xq (oPkT j j (iStr.2 hc1) j)<|xq (oMv j j)<|xsgF j j j j<|xsgF j j j j<|xsgF j j j j<|xsgF j j j j<|xq (oPkT j j j j)<|xn
  ·refine xqT j j (byF iStr hc1) (oMv j j)<|xqT j j (byF iStr hc1) (oLnS j j uF9 j)<|xqT j j (byF iStr hc1) (oBi j j j j)<|xq (oPkF j j (byF iStr hc1) j)<|xq (oMv j j)<|?_
   refine ic hm16 (fun hc2 hm16=>?_) fun hc2 hm16=>?_
   ·cases hm16
    exact xsgF j j (iDec.2 hc2) j<|xsgF j j (iDec.2 hc2) j<|xsgF j j (iDec.2 hc2) j<|xsgF j j (iDec.2 hc2) j<|xq (oPkT j j (iDec.2 hc2) j)<|xn
   ·obtain ⟨x13,hx13,hm16⟩:=bs hm16
    obtain ⟨x14,hx14,hm16⟩:=bs hm16
    cases hm16
    exact xqT j j (byF iDec hc2) (oMv j j)<|xqT j j (byF iDec hc2) (oIx j hx13 uF9 j j)<|xqT j j (byF iDec hc2) (oCa (xs:=[.v false [.im 0 _]]) (vs:=[(false,[.im 0 _])]) (v:=.v false [.im 0 _]) (L_spec_l01Small hx14) (.inl j) j kF268_5 j (ppC j pp0) j j pb0 j j j)<|xqT j j (byF iDec hc2) (oUn j j j)<|xq (oPkF j j (byF iDec hc2) j)<|xn
 ·refine us<|gc h j iR (fun hc3 h=>?_) fun hc3 h=>?_
  ·refine gs<|g0 j j (q (oAsI j j)<|nl)<|us<|Go.ret (Unw.ret ?_)
   cases h
   exact fr rF172 j
  ·refine Go.skip<|us<|gs<|gs<|g0 j j (q (oAsI j j)<|nl)<|us<|Go.block<|?_
   obtain ⟨o,hl,h⟩:=bs h
   refine gl c172 j _ (fun (i_3_l4:Int)=>mk [(0,sv s_0),(3,iv i_3_l4)] []) (fun (o:(Unit ⊕ Bool)) (p:Ex×St)=>match o with | (.inl _)=>p.1= .exit 0∧p.2.norm ([],[])=mk [] [] | (.inr r2)=>p.1= .ret∧fin Try.prog cfg 172 Try.f172 [.im 2 false [Y s_0]] p.2=some (B0 [(false,[.im 0 (V r2)])])) hl (by kernel_rfl) ?_ ?_ ?_
   ·intro o p hp e
    rcases o with u | r2<;>exact nomatch (hp.1.symm.trans e)
   ·rintro i_3_l4 o h
    unfold spec_l01Name_l4 at h
    refine gs<|gs<|g0 j j (q (oMv j j)<|q (oMv j j)<|q (oLnS j j uF9 j)<|q (oBi j j j j)<|nl)<|us<|gc h j iDec (fun hc12 h=>?_) fun hc12 h=>?_
    ·refine Go.skip<|us<|gs<|Go.block<|gs<|?_
     obtain ⟨x25,hx25,h⟩:=bs h
     obtain ⟨x26,hx26,h⟩:=bs h
     obtain ⟨t_34_m6,hm15,h⟩:=bs h
     refine gX c172 j j j (mk [(0,sv s_0),(3,iv i_3_l4),(34,bv t_34_m6)] []) ?_ ?_
     ·refine xq (oMv j j)<|xq (oMv j j)<|xq (oIx j hx25 uF9 j j)<|xq (oCa (xs:=[.v false [.im 0 _]]) (vs:=[(false,[.im 0 _])]) (v:=.v false [.im 0 _]) (L_spec_l01Small hx26) (.inl j) j kF268_5 j (ppC j pp0) j j pb0 j j j)<|xq (oUn j j j)<|xq (oMv j j)<|?_
      refine ic hm15 (fun hc13 hm15=>?_) fun hc13 hm15=>?_
      ·cases hm15
       exact xsgF j j (nF (iR.2 hc13)) j<|xsgF j j (nF (iR.2 hc13)) j<|xsgF j j (nF (iR.2 hc13)) j<|xsgF j j (nF (iR.2 hc13)) j<|xsgF j j (nF (iR.2 hc13)) j<|xq (oPkF j j (nF (iR.2 hc13)) j)<|xn
      ·obtain ⟨x31,hx31,hm15⟩:=bs hm15
       obtain ⟨x32,hx32,hm15⟩:=bs hm15
       cases hm15
       exact xqT j j (nT (byF iR hc13)) (oMv j j)<|xqT j j (nT (byF iR hc13)) (oMv j j)<|xqT j j (nT (byF iR hc13)) (oIx j hx31 uF9 j j)<|xqT j j (nT (byF iR hc13)) (oCa (xs:=[.v false [.im 0 _]]) (vs:=[(false,[.im 0 _])]) (v:=.v false [.im 0 _]) (L_spec_l01Digit hx32) (.inl j) j kF269_5 j (ppC j pp0) j j pb0 j j j)<|xqT j j (nT (byF iR hc13)) (oUn j j j)<|xq (oPkT j j (nT (byF iR hc13)) j)<|xn
     ·refine us<|gc h j iR (fun hc14 h=>?_) fun hc14 h=>?_
      ·refine gs<|g0 j j (q (oAsI j j)<|nl)<|us<|Go.ret (Unw.ret ?_)
       cases h
       exact ⟨j,(fo rF172 j)⟩
      ·refine Go.skip<|Unw.blk<|us<|g0 j j (q (oMv j j)<|q (oBi j j j j)<|q (oAsI j j)<|nl)<|Unw.nil<|?_
       cases h
       exact ⟨j,(by kernel_rfl)⟩
    ·refine Go.exit<|ux<|Unw.nil<|?_
     cases h
     exact ⟨j,(by kernel_rfl)⟩
   ·rintro ⟨e,st⟩ hp
    rcases o with u | r2
    ·dsimp only at h
     obtain ⟨he,hst⟩:=hp
     obtain rfl:e= .exit 0:=he
     refine Unw.blkx<|us<|gs<|g2 c172 j j hst (q (oAsI j j)<|nl)<|us<|Go.ret (Unw.ret ?_)
     cases h
     exact fr rF172 j
    ·dsimp only at h
     obtain ⟨he,hfin⟩:=hp
     obtain rfl:e= .ret:=he
     cases h
     exact Unw.ret (Fin_ret hfin)
theorem L_spec_l05Ring {d_0:S_Drawing} {ring_1:(List Int)} {r:((List S_Point)×Bool)} (h:spec_l05Ring d_0 ring_1=some r):FX 173 [.im 2 false [.cp (u_S_Drawing d_0) 0],.im 2 false [W 1 eI ring_1]] (B0 [(false,[.ow 0 2 (List.map e_S_Point r.1)]),(false,[.im 0 (V r.2)])]):=by
 unfold spec_l05Ring at h
 refine gn 41 Try.func173 rfl ?_
 refine gs<|g0 j j (q (oAsN j j eF23)<|q (oAsI j j)<|nl)<|us<|gs<|g0 j j (q (oBS (es:=List.map e_S_Point ([]:List S_Point)) j sF23 j pt0 (flat0 j fun _=>j))<|q (oAsO j j j j j)<|nl)<|us<|gs<|gs<|g0 j j (q (oAsI j j)<|nl)<|us<|Go.block<|?_
 obtain ⟨o,hl,h⟩:=bs h
 refine gl c173 j _ (fun (s:(Int×(List S_Point)))=>match s with | (i_7_l3,out_o6_l3)=>mk [(0,D 2 (.cp (u_S_Drawing d_0) 0)),(1,D 2 (W 1 eI ring_1)),(6,H 6 0),(7,iv i_7_l3)] [(6,Oc [Z (W 2 e_S_Point out_o6_l3)])]) (fun (o:((List S_Point) ⊕ ((List S_Point)×Bool))) (p:Ex×St)=>match o with | (.inl out_o6_e0_3)=>p.1= .exit 0∧p.2.norm ([6],[6])=mk [(6,H 6 0)] [(6,Oc [Z (W 2 e_S_Point out_o6_e0_3)])] | (.inr r2)=>p.1= .ret∧fin Try.prog cfg 173 Try.f173 [.im 2 false [.cp (u_S_Drawing d_0) 0],.im 2 false [W 1 eI ring_1]] p.2=some (B0 [(false,[.ow 0 2 (List.map e_S_Point r2.1)]),(false,[.im 0 (V r2.2)])])) hl (by kernel_rfl) ?_ ?_ ?_
 ·intro o p hp e
  rcases o with out_o6_e0_3 | r2<;>exact nomatch (hp.1.symm.trans e)
 ·rintro ⟨i_7_l3,out_o6_l3⟩ o h
  unfold spec_l05Ring_l3 at h
  dsimp only at h
  refine gs<|gs<|g0 j j (q (oMv j j)<|q (oMv j j)<|q (oLnI j j uF28 j)<|q (oBi j j j j)<|nl)<|us<|gc h j iDec (fun hc5 h=>?_) fun hc5 h=>?_
  ·refine Go.skip<|us<|gs<|Go.block<|gs<|gs<|?_
   obtain ⟨x17,hx17,h⟩:=bs h
   obtain ⟨x25,hx25,h⟩:=bs h
   refine gd c173 j j j j (mk [(0,D 2 (.cp (u_S_Drawing d_0) 0)),(1,D 2 (W 1 eI ring_1)),(6,H 6 0),(7,iv i_7_l3),(26,bv (!x25))] [(6,Oc [Z (W 2 e_S_Point out_o6_l3)])]) (t j j (oMv j j)<|t j j (oMv j j)<|t j j (oIAI j hx17 sF28 j j)<|t j j (oLd (cs:=[.im 2 _]) j tF2 j j)<|t j j (oMv j j)<|t j j (oNl j j j)<|t j j (oFA (r':=.im 2 _) j fF26_2 j j)<|t j j (oLd (cs:=[.im 2 _]) j tF23 j j)<|t j j (oLnI j j uF23 j)<|t j j (oBi j j j j)<|sS (dN z173 j (oCa (xs:=[.v false [.im 2 _],.v false [.im 0 _],.v false [.im 0 _]]) (vs:=[(false,[.im 0 _])]) (v:=.v false [.im 0 _]) (L_spec_l00In hx25) (.inl j) j kF94_2_2_2 j (ppC j (ppC j (ppC j pp0))) j j pb0 j j j)) trivial (t j j (oUn j j j)<|sD (by kernel_rfl)))<|us<|?_
   by_cases hc6:x25=true
   ·rw [if_pos hc6] at h
    refine gF j (nF (iR.2 hc6))<|Go.skip<|us<|?_
    obtain ⟨x34,hx34,h⟩:=bs h
    obtain ⟨x36,hx36,h⟩:=bs h
    obtain ⟨x39,hx39,h⟩:=bs h
    refine gd c173 j j j j (mk [(0,D 2 (.cp (u_S_Drawing d_0) 0)),(1,D 2 (W 1 eI ring_1)),(6,H 6 0),(7,iv i_7_l3)] [(6,Oc [Z (W 2 e_S_Point x39)])]) (t j j (oMv j j)<|t j j (oMv j j)<|t j j (oNl j j j)<|t j j (oFA (r':=.im 2 _) j fF26_2 j j)<|t j j (oLd (cs:=[.im 2 _]) j tF23 j j)<|t j j (oMv j j)<|t j j (oMv j j)<|t j j (oIAI j hx34 sF28 j j)<|t j j (oLd (cs:=[.im 2 _]) j tF2 j j)<|t j j (oIAI j hx36 sF23 j j)<|t j j (oLd (cs:=[.im 2 _,.im 2 _]) j tF264 j j)<|sS (dN z173 j (oBS (es:=List.map e_S_Point ([x36]:List S_Point)) j sF23 j (ptC j (fxI (fxI fx0)) j pt0) (flat0 j fun _=>j))) trivial (sS (dN z173 j (oApO (en:=e_S_Point) (M:=([x36]:List S_Point)) j hx39 j sF23 j j uF23 (.inl ⟨_,j⟩) j j j j (el_own j j) (flat0 j fun _=>j))) trivial (sS (dN z173 j (oAsO j j j j j)) trivial (sD (by kernel_rfl)))))<|Unw.blk<|us<|g0 j j (q (oMv j j)<|q (oBi j j j j)<|q (oAsI j j)<|nl)<|Unw.nil<|?_
    cases h
    exact ⟨j,(by kernel_rfl)⟩
   ·rw [if_neg hc6] at h
    refine gT j (nT (byF iR hc6))<|gs<|g0 j j (q (oAsN j j eF23)<|q (oAsI j j)<|nl)<|us<|Go.ret (Unw.ret ?_)
    cases h
    exact ⟨j,(fo rF173 j)⟩
  ·refine Go.exit<|ux<|Unw.nil<|?_
   cases h
   exact ⟨j,(by kernel_rfl)⟩
 ·rintro ⟨e,st⟩ hp
  rcases o with out_o6_e0_3 | r2
  ·dsimp only at h
   obtain ⟨he,hst⟩:=hp
   obtain rfl:e= .exit 0:=he
   refine Unw.blkx<|us<|gs<|g2 c173 j j hst (q (oMv j j)<|q (oAsO j j j j j)<|q (oAsI j j)<|nl)<|us<|Go.ret (Unw.ret ?_)
   cases h
   exact fr rF173 j
  ·dsimp only at h
   obtain ⟨he,hfin⟩:=hp
   obtain rfl:e= .ret:=he
   cases h
   exact Unw.ret (Fin_ret hfin)
theorem L_spec_l02Ok {p_0:S_Point} {r:Bool} (h:spec_l02Ok p_0=some r):FX 270 [.im 2 true (u_S_Point p_0)] (B0 [(false,[.im 0 (V r)])]):=by
 unfold spec_l02Ok at h
 refine gn 11 Try.func270 rfl ?_
 refine gs<|g0 j j (q (oBx j tF264 j (tkI (tkI tk0)))<|q (oAsI j j)<|nl)<|us<|gs<|?_
 obtain ⟨x5,hx5,h⟩:=bs h
 obtain ⟨t_2_m1,hm2,h⟩:=bs h
 refine gX c270 j j j (mk [(2,bv t_2_m1)] []) ?_ ?_
 ·refine xq (oFA (r':=.mp 1 0 0) j fF264_0 j j)<|xq (oLd (cs:=[.im 0 _]) j tF2 j j)<|xq (oCa (xs:=[.v false [.im 0 _],.v false [.im 0 _],.v false [.im 0 _]]) (vs:=[(false,[.im 0 _])]) (v:=.v false [.im 0 _]) (L_spec_l00In hx5) (.inl j) j kF94_2_2_2 j (ppC j (ppC j (ppC j pp0))) j j pb0 j j j)<|xq (oMv j j)<|?_
  refine ic hm2 (fun hc1 hm2=>?_) fun hc1 hm2=>?_
  ·obtain ⟨x9,hx9,hm2⟩:=bs hm2
   cases hm2
   exact xqT j j (iR.2 hc1) (oFA (r':=.mp 1 0 1) j fF264_1 j j)<|xqT j j (iR.2 hc1) (oLd (cs:=[.im 0 _]) j tF2 j j)<|xqT j j (iR.2 hc1) (oCa (xs:=[.v false [.im 0 _],.v false [.im 0 _],.v false [.im 0 _]]) (vs:=[(false,[.im 0 _])]) (v:=.v false [.im 0 _]) (L_spec_l00In hx9) (.inl j) j kF94_2_2_2 j (ppC j (ppC j (ppC j pp0))) j j pb0 j j j)<|xq (oPkT j j (iR.2 hc1) j)<|xq (oAsI j j)<|xn
  ·cases hm2
   exact xsgF j j (byF iR hc1) j<|xsgF j j (byF iR hc1) j<|xsgF j j (byF iR hc1) j<|xq (oPkF j j (byF iR hc1) j)<|xq (oAsI j j)<|xn
 ·refine us<|Go.ret (Unw.ret ?_)
  cases h
  exact fr rF270 j
theorem L_spec_l02Cross {a_0:S_Point} {b_1:S_Point} {c_2:S_Point} {r:Int} (h:spec_l02Cross a_0 b_1 c_2=some r):FX 354 [.im 2 true (u_S_Point a_0),.im 2 true (u_S_Point b_1),.im 2 true (u_S_Point c_2)] (B0 [(false,[.im 0 (I r)])]):=by
 unfold spec_l02Cross at h
 refine gn 30 Try.func354 rfl ?_
 refine gs<|g0 j j (q (oBx j tF264 j (tkI (tkI tk0)))<|q (oBx j tF264 j (tkI (tkI tk0)))<|q (oBx j tF264 j (tkI (tkI tk0)))<|q (oAsI j j)<|nl)<|us<|gs<|g0 j j (q (oFA (r':=.mp 4 0 0) j fF264_0 j j)<|q (oLd (cs:=[.im 0 _]) j tF2 j j)<|q (oFA (r':=.mp 3 0 0) j fF264_0 j j)<|q (oLd (cs:=[.im 0 _]) j tF2 j j)<|q (oBi j j j j)<|q (oFA (r':=.mp 5 0 1) j fF264_1 j j)<|q (oLd (cs:=[.im 0 _]) j tF2 j j)<|q (oFA (r':=.mp 3 0 1) j fF264_1 j j)<|q (oLd (cs:=[.im 0 _]) j tF2 j j)<|q (oBi j j j j)<|q (oBi j j j j)<|q (oFA (r':=.mp 4 0 1) j fF264_1 j j)<|q (oLd (cs:=[.im 0 _]) j tF2 j j)<|q (oFA (r':=.mp 3 0 1) j fF264_1 j j)<|q (oLd (cs:=[.im 0 _]) j tF2 j j)<|q (oBi j j j j)<|q (oFA (r':=.mp 5 0 0) j fF264_0 j j)<|q (oLd (cs:=[.im 0 _]) j tF2 j j)<|q (oFA (r':=.mp 3 0 0) j fF264_0 j j)<|q (oLd (cs:=[.im 0 _]) j tF2 j j)<|q (oBi j j j j)<|q (oBi j j j j)<|q (oBi j j j j)<|q (oAsI j j)<|nl)<|us<|Go.ret (Unw.ret ?_)
 cases h
 exact fr rF354 j
theorem L_spec_l02Side {a_0:S_Point} {b_1:S_Point} {c_2:S_Point} {r:Int} (h:spec_l02Side a_0 b_1 c_2=some r):FX 319 [.im 2 true (u_S_Point a_0),.im 2 true (u_S_Point b_1),.im 2 true (u_S_Point c_2)] (B0 [(false,[.im 0 (I r)])]):=by
 unfold spec_l02Side at h
 refine gn 16 Try.func319 rfl ?_
 refine gs<|g0 j j (q (oBx j tF264 j (tkI (tkI tk0)))<|q (oBx j tF264 j (tkI (tkI tk0)))<|q (oBx j tF264 j (tkI (tkI tk0)))<|q (oAsI j j)<|nl)<|us<|gs<|?_
 obtain ⟨x11,hx11,h⟩:=bs h
 refine g0 j j (q (oLd (cs:=[.im 0 _,.im 0 _]) j tF264 j j)<|q (oLd (cs:=[.im 0 _,.im 0 _]) j tF264 j j)<|q (oLd (cs:=[.im 0 _,.im 0 _]) j tF264 j j)<|q (oCa (xs:=[.v true [.im 0 _,.im 0 _],.v true [.im 0 _,.im 0 _],.v true [.im 0 _,.im 0 _]]) (vs:=[(false,[.im 0 _])]) (v:=.v false [.im 0 _]) (L_spec_l02Cross hx11) (.inl j) j kF354_264_264_264 j (ppC j (ppC j (ppC j pp0))) j j pb0 j j j)<|q (oAsI j j)<|nl)<|us<|gs<|gs<|g0 j j (q (oMv j j)<|q (oBi j j j j)<|nl)<|us<|gc h j iDec (fun hc1 h=>?_) fun hc1 h=>?_
 ·refine gs<|g0 j j (q (oAsI j j)<|nl)<|us<|Go.ret (Unw.ret ?_)
  cases h
  exact fr rF319 j
 ·refine Go.skip<|us<|gs<|gs<|g0 j j (q (oMv j j)<|q (oBi j j j j)<|nl)<|us<|gc h j iDec (fun hc2 h=>?_) fun hc2 h=>?_
  ·refine gs<|g0 j j (q (oAsI j j)<|nl)<|us<|Go.ret (Unw.ret ?_)
   cases h
   exact fr rF319 j
  ·refine Go.skip<|us<|gs<|g0 j j (q (oAsI j j)<|nl)<|us<|Go.ret (Unw.ret ?_)
   cases h
   exact fr rF319 j
theorem L_spec_l00Min {a_0:Int} {b_1:Int} {r:Int} (h:spec_l00Min a_0 b_1=some r):FX 222 [.im 2 false [I a_0],.im 2 false [I b_1]] (B0 [(false,[.im 0 (I r)])]):=by
 unfold spec_l00Min at h
 refine gn 10 Try.func222 rfl ?_
 refine gs<|g0 j j (q (oAsI j j)<|nl)<|us<|gs<|gs<|g0 j j (q (oMv j j)<|q (oMv j j)<|q (oBi j j j j)<|nl)<|us<|gc h j iDec (fun hc1 h=>?_) fun hc1 h=>?_
 ·refine gs<|g0 j j (q (oMv j j)<|q (oAsI j j)<|nl)<|us<|Go.ret (Unw.ret ?_)
  cases h
  exact fr rF222 j
 ·refine Go.skip<|us<|gs<|g0 j j (q (oMv j j)<|q (oAsI j j)<|nl)<|us<|Go.ret (Unw.ret ?_)
  cases h
  exact fr rF222 j
theorem L_spec_l00Max {a_0:Int} {b_1:Int} {r:Int} (h:spec_l00Max a_0 b_1=some r):FX 218 [.im 2 false [I a_0],.im 2 false [I b_1]] (B0 [(false,[.im 0 (I r)])]):=by
 unfold spec_l00Max at h
 refine gn 10 Try.func218 rfl ?_
 refine gs<|g0 j j (q (oAsI j j)<|nl)<|us<|gs<|gs<|g0 j j (q (oMv j j)<|q (oMv j j)<|q (oBi j j j j)<|nl)<|us<|gc h j iDec (fun hc1 h=>?_) fun hc1 h=>?_
 ·refine gs<|g0 j j (q (oMv j j)<|q (oAsI j j)<|nl)<|us<|Go.ret (Unw.ret ?_)
  cases h
  exact fr rF218 j
 ·refine Go.skip<|us<|gs<|g0 j j (q (oMv j j)<|q (oAsI j j)<|nl)<|us<|Go.ret (Unw.ret ?_)
  cases h
  exact fr rF218 j
theorem L_spec_l02On {a_0:S_Point} {b_1:S_Point} {p_2:S_Point} {r:Bool} (h:spec_l02On a_0 b_1 p_2=some r):FX 271 [.im 2 true (u_S_Point a_0),.im 2 true (u_S_Point b_1),.im 2 true (u_S_Point p_2)] (B0 [(false,[.im 0 (V r)])]):=by
 unfold spec_l02On at h
 refine gn 42 Try.func271 rfl ?_
 refine gs<|g0 j j (q (oBx j tF264 j (tkI (tkI tk0)))<|q (oBx j tF264 j (tkI (tkI tk0)))<|q (oBx j tF264 j (tkI (tkI tk0)))<|q (oAsI j j)<|nl)<|us<|gs<|?_
 obtain ⟨x10,hx10,h⟩:=bs h
 obtain ⟨t_6_m1,hm3,h⟩:=bs h
 refine gd c271 j j j j (mk [(6,bv t_6_m1)] []) ?_ ?_
 ·refine t j j (oLd (cs:=[.im 0 _,.im 0 _]) j tF264 j j)<|t j j (oLd (cs:=[.im 0 _,.im 0 _]) j tF264 j j)<|?_
  refine ic hm3 (fun hc1 hm3=>?_) fun hc1 hm3=>?_
  ·obtain ⟨x19,hx19,hm3⟩:=bs hm3
   obtain ⟨x24,hx24,hm3⟩:=bs hm3
   obtain ⟨x25,hx25,hm3⟩:=bs hm3
   refine ic hm3 (fun hc2 hm3=>?_) fun hc2 hm3=>?_
   ·obtain ⟨x34,hx34,hm3⟩:=bs hm3
    obtain ⟨x39,hx39,hm3⟩:=bs hm3
    obtain ⟨x40,hx40,hm3⟩:=bs hm3
    cases hm3
    exact t j j (oLd (cs:=[.im 0 _,.im 0 _]) j tF264 j j)<|sS (dN z271 j (oCa (xs:=[.v true [.im 0 _,.im 0 _],.v true [.im 0 _,.im 0 _],.v true [.im 0 _,.im 0 _]]) (vs:=[(false,[.im 0 _])]) (v:=.v false [.im 0 _]) (L_spec_l02Side hx10) (.inl j) j kF319_264_264_264 j (ppC j (ppC j (ppC j pp0))) j j pb0 j j j)) trivial (t j j (oBi j j j j)<|t j j (oMv j j)<|tT j j j j (iEq.2 hc1) (oFA (r':=.mp 5 0 0) j fF264_0 j j)<|tT j j j j (iEq.2 hc1) (oLd (cs:=[.im 0 _]) j tF2 j j)<|tT j j j j (iEq.2 hc1) (oFA (r':=.mp 3 0 0) j fF264_0 j j)<|tT j j j j (iEq.2 hc1) (oLd (cs:=[.im 0 _]) j tF2 j j)<|tT j j j j (iEq.2 hc1) (oFA (r':=.mp 4 0 0) j fF264_0 j j)<|tT j j j j (iEq.2 hc1) (oLd (cs:=[.im 0 _]) j tF2 j j)<|tT j j j j (iEq.2 hc1) (oFA (r':=.mp 3 0 0) j fF264_0 j j)<|tT j j j j (iEq.2 hc1) (oLd (cs:=[.im 0 _]) j tF2 j j)<|tT j j j j (iEq.2 hc1) (oFA (r':=.mp 4 0 0) j fF264_0 j j)<|tT j j j j (iEq.2 hc1) (oLd (cs:=[.im 0 _]) j tF2 j j)<|sS (dT z271 j j j (iEq.2 hc1) (oCa (xs:=[.v false [.im 0 _],.v false [.im 0 _]]) (vs:=[(false,[.im 0 _])]) (v:=.v false [.im 0 _]) (L_spec_l00Min hx19) (.inl j) j kF222_2_2 j (ppC j (ppC j pp0)) j j pb0 j j j)) trivial (sS (dT z271 j j j (iEq.2 hc1) (oCa (xs:=[.v false [.im 0 _],.v false [.im 0 _]]) (vs:=[(false,[.im 0 _])]) (v:=.v false [.im 0 _]) (L_spec_l00Max hx24) (.inl j) j kF218_2_2 j (ppC j (ppC j pp0)) j j pb0 j j j)) trivial (sS (dT z271 j j j (iEq.2 hc1) (oCa (xs:=[.v false [.im 0 _],.v false [.im 0 _],.v false [.im 0 _]]) (vs:=[(false,[.im 0 _])]) (v:=.v false [.im 0 _]) (L_spec_l00In hx25) (.inl j) j kF94_2_2_2 j (ppC j (ppC j (ppC j pp0))) j j pb0 j j j)) trivial (t j j (oPkT j j (iEq.2 hc1) j)<|t j j (oMv j j)<|tT j j j j (iR.2 hc2) (oFA (r':=.mp 5 0 1) j fF264_1 j j)<|tT j j j j (iR.2 hc2) (oLd (cs:=[.im 0 _]) j tF2 j j)<|tT j j j j (iR.2 hc2) (oFA (r':=.mp 3 0 1) j fF264_1 j j)<|tT j j j j (iR.2 hc2) (oLd (cs:=[.im 0 _]) j tF2 j j)<|tT j j j j (iR.2 hc2) (oFA (r':=.mp 4 0 1) j fF264_1 j j)<|tT j j j j (iR.2 hc2) (oLd (cs:=[.im 0 _]) j tF2 j j)<|tT j j j j (iR.2 hc2) (oFA (r':=.mp 3 0 1) j fF264_1 j j)<|tT j j j j (iR.2 hc2) (oLd (cs:=[.im 0 _]) j tF2 j j)<|tT j j j j (iR.2 hc2) (oFA (r':=.mp 4 0 1) j fF264_1 j j)<|tT j j j j (iR.2 hc2) (oLd (cs:=[.im 0 _]) j tF2 j j)<|sS (dT z271 j j j (iR.2 hc2) (oCa (xs:=[.v false [.im 0 _],.v false [.im 0 _]]) (vs:=[(false,[.im 0 _])]) (v:=.v false [.im 0 _]) (L_spec_l00Min hx34) (.inl j) j kF222_2_2 j (ppC j (ppC j pp0)) j j pb0 j j j)) trivial (sS (dT z271 j j j (iR.2 hc2) (oCa (xs:=[.v false [.im 0 _],.v false [.im 0 _]]) (vs:=[(false,[.im 0 _])]) (v:=.v false [.im 0 _]) (L_spec_l00Max hx39) (.inl j) j kF218_2_2 j (ppC j (ppC j pp0)) j j pb0 j j j)) trivial (sS (dT z271 j j j (iR.2 hc2) (oCa (xs:=[.v false [.im 0 _],.v false [.im 0 _],.v false [.im 0 _]]) (vs:=[(false,[.im 0 _])]) (v:=.v false [.im 0 _]) (L_spec_l00In hx40) (.inl j) j kF94_2_2_2 j (ppC j (ppC j (ppC j pp0))) j j pb0 j j j)) trivial (t j j (oPkT j j (iR.2 hc2) j)<|sS (dN z271 j (oAsI j j)) trivial (sD (by kernel_rfl)))))))))
   ·cases hm3
    exact t j j (oLd (cs:=[.im 0 _,.im 0 _]) j tF264 j j)<|sS (dN z271 j (oCa (xs:=[.v true [.im 0 _,.im 0 _],.v true [.im 0 _,.im 0 _],.v true [.im 0 _,.im 0 _]]) (vs:=[(false,[.im 0 _])]) (v:=.v false [.im 0 _]) (L_spec_l02Side hx10) (.inl j) j kF319_264_264_264 j (ppC j (ppC j (ppC j pp0))) j j pb0 j j j)) trivial (t j j (oBi j j j j)<|t j j (oMv j j)<|tT j j j j (iEq.2 hc1) (oFA (r':=.mp 5 0 0) j fF264_0 j j)<|tT j j j j (iEq.2 hc1) (oLd (cs:=[.im 0 _]) j tF2 j j)<|tT j j j j (iEq.2 hc1) (oFA (r':=.mp 3 0 0) j fF264_0 j j)<|tT j j j j (iEq.2 hc1) (oLd (cs:=[.im 0 _]) j tF2 j j)<|tT j j j j (iEq.2 hc1) (oFA (r':=.mp 4 0 0) j fF264_0 j j)<|tT j j j j (iEq.2 hc1) (oLd (cs:=[.im 0 _]) j tF2 j j)<|tT j j j j (iEq.2 hc1) (oFA (r':=.mp 3 0 0) j fF264_0 j j)<|tT j j j j (iEq.2 hc1) (oLd (cs:=[.im 0 _]) j tF2 j j)<|tT j j j j (iEq.2 hc1) (oFA (r':=.mp 4 0 0) j fF264_0 j j)<|tT j j j j (iEq.2 hc1) (oLd (cs:=[.im 0 _]) j tF2 j j)<|sS (dT z271 j j j (iEq.2 hc1) (oCa (xs:=[.v false [.im 0 _],.v false [.im 0 _]]) (vs:=[(false,[.im 0 _])]) (v:=.v false [.im 0 _]) (L_spec_l00Min hx19) (.inl j) j kF222_2_2 j (ppC j (ppC j pp0)) j j pb0 j j j)) trivial (sS (dT z271 j j j (iEq.2 hc1) (oCa (xs:=[.v false [.im 0 _],.v false [.im 0 _]]) (vs:=[(false,[.im 0 _])]) (v:=.v false [.im 0 _]) (L_spec_l00Max hx24) (.inl j) j kF218_2_2 j (ppC j (ppC j pp0)) j j pb0 j j j)) trivial (sS (dT z271 j j j (iEq.2 hc1) (oCa (xs:=[.v false [.im 0 _],.v false [.im 0 _],.v false [.im 0 _]]) (vs:=[(false,[.im 0 _])]) (v:=.v false [.im 0 _]) (L_spec_l00In hx25) (.inl j) j kF94_2_2_2 j (ppC j (ppC j (ppC j pp0))) j j pb0 j j j)) trivial (t j j (oPkT j j (iEq.2 hc1) j)<|t j j (oMv j j)<|tF j j j j (byF iR hc2) j<|tF j j j j (byF iR hc2) j<|tF j j j j (byF iR hc2) j<|tF j j j j (byF iR hc2) j<|tF j j j j (byF iR hc2) j<|tF j j j j (byF iR hc2) j<|tF j j j j (byF iR hc2) j<|tF j j j j (byF iR hc2) j<|tF j j j j (byF iR hc2) j<|tF j j j j (byF iR hc2) j<|sS (dF j j j (byF iR hc2) j) trivial (sS (dF j j j (byF iR hc2) j) trivial (sS (dF j j j (byF iR hc2) j) trivial (t j j (oPkF j j (byF iR hc2) j)<|sS (dN z271 j (oAsI j j)) trivial (sD (by kernel_rfl)))))))))
  ·cases hm3
   exact t j j (oLd (cs:=[.im 0 _,.im 0 _]) j tF264 j j)<|sS (dN z271 j (oCa (xs:=[.v true [.im 0 _,.im 0 _],.v true [.im 0 _,.im 0 _],.v true [.im 0 _,.im 0 _]]) (vs:=[(false,[.im 0 _])]) (v:=.v false [.im 0 _]) (L_spec_l02Side hx10) (.inl j) j kF319_264_264_264 j (ppC j (ppC j (ppC j pp0))) j j pb0 j j j)) trivial (t j j (oBi j j j j)<|t j j (oMv j j)<|tF j j j j (byF iEq hc1) j<|tF j j j j (byF iEq hc1) j<|tF j j j j (byF iEq hc1) j<|tF j j j j (byF iEq hc1) j<|tF j j j j (byF iEq hc1) j<|tF j j j j (byF iEq hc1) j<|tF j j j j (byF iEq hc1) j<|tF j j j j (byF iEq hc1) j<|tF j j j j (byF iEq hc1) j<|tF j j j j (byF iEq hc1) j<|sS (dF j j j (byF iEq hc1) j) trivial (sS (dF j j j (byF iEq hc1) j) trivial (sS (dF j j j (byF iEq hc1) j) trivial (t j j (oPkF j j (byF iEq hc1) j)<|t j j (oMv j j)<|tF j j j j j j<|tF j j j j j j<|tF j j j j j j<|tF j j j j j j<|tF j j j j j j<|tF j j j j j j<|tF j j j j j j<|tF j j j j j j<|tF j j j j j j<|tF j j j j j j<|sS (dF j j j j j) trivial (sS (dF j j j j j) trivial (sS (dF j j j j j) trivial (t j j (oPkF j j j j)<|sS (dN z271 j (oAsI j j)) trivial (sD (by kernel_rfl)))))))))
 ·refine us<|Go.ret (Unw.ret ?_)
  cases h
  exact fr rF271 j
theorem L_spec_l02Crosses {a_0:S_Point} {b_1:S_Point} {c_2:S_Point} {d_3:S_Point} {r:Bool} (h:spec_l02Crosses a_0 b_1 c_2 d_3=some r):FX 320 [.im 2 true (u_S_Point a_0),.im 2 true (u_S_Point b_1),.im 2 true (u_S_Point c_2),.im 2 true (u_S_Point d_3)] (B0 [(false,[.im 0 (V r)])]):=by
 unfold spec_l02Crosses at h
 refine gn 31 Try.func320 rfl ?_
 refine gs<|g0 j j (q (oBx j tF264 j (tkI (tkI tk0)))<|q (oBx j tF264 j (tkI (tkI tk0)))<|q (oBx j tF264 j (tkI (tkI tk0)))<|q (oBx j tF264 j (tkI (tkI tk0)))<|q (oAsI j j)<|nl)<|us<|gs<|?_
 obtain ⟨x12,hx12,h⟩:=bs h
 obtain ⟨x16,hx16,h⟩:=bs h
 obtain ⟨t_8_m1,hm2,h⟩:=bs h
 refine gd c320 j j j j (mk [(8,bv t_8_m1)] []) ?_ ?_
 ·refine t j j (oLd (cs:=[.im 0 _,.im 0 _]) j tF264 j j)<|t j j (oLd (cs:=[.im 0 _,.im 0 _]) j tF264 j j)<|t j j (oLd (cs:=[.im 0 _,.im 0 _]) j tF264 j j)<|t j j (oLd (cs:=[.im 0 _,.im 0 _]) j tF264 j j)<|t j j (oLd (cs:=[.im 0 _,.im 0 _]) j tF264 j j)<|?_
  refine ic hm2 (fun hc1 hm2=>?_) fun hc1 hm2=>?_
  ·obtain ⟨x23,hx23,hm2⟩:=bs hm2
   obtain ⟨x27,hx27,hm2⟩:=bs hm2
   cases hm2
   exact t j j (oLd (cs:=[.im 0 _,.im 0 _]) j tF264 j j)<|sS (dN z320 j (oCa (xs:=[.v true [.im 0 _,.im 0 _],.v true [.im 0 _,.im 0 _],.v true [.im 0 _,.im 0 _]]) (vs:=[(false,[.im 0 _])]) (v:=.v false [.im 0 _]) (L_spec_l02Side hx12) (.inl j) j kF319_264_264_264 j (ppC j (ppC j (ppC j pp0))) j j pb0 j j j)) trivial (sS (dN z320 j (oCa (xs:=[.v true [.im 0 _,.im 0 _],.v true [.im 0 _,.im 0 _],.v true [.im 0 _,.im 0 _]]) (vs:=[(false,[.im 0 _])]) (v:=.v false [.im 0 _]) (L_spec_l02Side hx16) (.inl j) j kF319_264_264_264 j (ppC j (ppC j (ppC j pp0))) j j pb0 j j j)) trivial (t j j (oBi j j j j)<|t j j (oBi j j j j)<|t j j (oMv j j)<|tT j j j j (iDec.2 hc1) (oLd (cs:=[.im 0 _,.im 0 _]) j tF264 j j)<|tT j j j j (iDec.2 hc1) (oLd (cs:=[.im 0 _,.im 0 _]) j tF264 j j)<|tT j j j j (iDec.2 hc1) (oLd (cs:=[.im 0 _,.im 0 _]) j tF264 j j)<|tT j j j j (iDec.2 hc1) (oLd (cs:=[.im 0 _,.im 0 _]) j tF264 j j)<|tT j j j j (iDec.2 hc1) (oLd (cs:=[.im 0 _,.im 0 _]) j tF264 j j)<|tT j j j j (iDec.2 hc1) (oLd (cs:=[.im 0 _,.im 0 _]) j tF264 j j)<|sS (dT z320 j j j (iDec.2 hc1) (oCa (xs:=[.v true [.im 0 _,.im 0 _],.v true [.im 0 _,.im 0 _],.v true [.im 0 _,.im 0 _]]) (vs:=[(false,[.im 0 _])]) (v:=.v false [.im 0 _]) (L_spec_l02Side hx23) (.inl j) j kF319_264_264_264 j (ppC j (ppC j (ppC j pp0))) j j pb0 j j j)) trivial (sS (dT z320 j j j (iDec.2 hc1) (oCa (xs:=[.v true [.im 0 _,.im 0 _],.v true [.im 0 _,.im 0 _],.v true [.im 0 _,.im 0 _]]) (vs:=[(false,[.im 0 _])]) (v:=.v false [.im 0 _]) (L_spec_l02Side hx27) (.inl j) j kF319_264_264_264 j (ppC j (ppC j (ppC j pp0))) j j pb0 j j j)) trivial (tT j j j j (iDec.2 hc1) (oBi j j j j)<|tT j j j j (iDec.2 hc1) (oBi j j j j)<|t j j (oPkT j j (iDec.2 hc1) j)<|sS (dN z320 j (oAsI j j)) trivial (sD (by kernel_rfl))))))
  ·cases hm2
   exact t j j (oLd (cs:=[.im 0 _,.im 0 _]) j tF264 j j)<|sS (dN z320 j (oCa (xs:=[.v true [.im 0 _,.im 0 _],.v true [.im 0 _,.im 0 _],.v true [.im 0 _,.im 0 _]]) (vs:=[(false,[.im 0 _])]) (v:=.v false [.im 0 _]) (L_spec_l02Side hx12) (.inl j) j kF319_264_264_264 j (ppC j (ppC j (ppC j pp0))) j j pb0 j j j)) trivial (sS (dN z320 j (oCa (xs:=[.v true [.im 0 _,.im 0 _],.v true [.im 0 _,.im 0 _],.v true [.im 0 _,.im 0 _]]) (vs:=[(false,[.im 0 _])]) (v:=.v false [.im 0 _]) (L_spec_l02Side hx16) (.inl j) j kF319_264_264_264 j (ppC j (ppC j (ppC j pp0))) j j pb0 j j j)) trivial (t j j (oBi j j j j)<|t j j (oBi j j j j)<|t j j (oMv j j)<|tF j j j j (byF iDec hc1) j<|tF j j j j (byF iDec hc1) j<|tF j j j j (byF iDec hc1) j<|tF j j j j (byF iDec hc1) j<|tF j j j j (byF iDec hc1) j<|tF j j j j (byF iDec hc1) j<|sS (dF j j j (byF iDec hc1) j) trivial (sS (dF j j j (byF iDec hc1) j) trivial (tF j j j j (byF iDec hc1) j<|tF j j j j (byF iDec hc1) j<|t j j (oPkF j j (byF iDec hc1) j)<|sS (dN z320 j (oAsI j j)) trivial (sD (by kernel_rfl))))))
 ·refine us<|Go.ret (Unw.ret ?_)
  cases h
  exact fr rF320 j
theorem L_spec_l03Meet {a_0:S_Point} {b_1:S_Point} {c_2:S_Point} {d_3:S_Point} {r:Bool} (h:spec_l03Meet a_0 b_1 c_2 d_3=some r):FX 272 [.im 2 true (u_S_Point a_0),.im 2 true (u_S_Point b_1),.im 2 true (u_S_Point c_2),.im 2 true (u_S_Point d_3)] (B0 [(false,[.im 0 (V r)])]):=by
 unfold spec_l03Meet at h
 refine gn 38 Try.func272 rfl ?_
 refine gs<|g0 j j (q (oBx j tF264 j (tkI (tkI tk0)))<|q (oBx j tF264 j (tkI (tkI tk0)))<|q (oBx j tF264 j (tkI (tkI tk0)))<|q (oBx j tF264 j (tkI (tkI tk0)))<|q (oAsI j j)<|nl)<|us<|gs<|?_
 obtain ⟨x13,hx13,h⟩:=bs h
 obtain ⟨t_8_m1,hm5,h⟩:=bs h
 refine gX c272 j j j (mk [(8,bv t_8_m1)] []) ?_ ?_
 ·refine xq (oLd (cs:=[.im 0 _,.im 0 _]) j tF264 j j)<|xq (oLd (cs:=[.im 0 _,.im 0 _]) j tF264 j j)<|xq (oLd (cs:=[.im 0 _,.im 0 _]) j tF264 j j)<|xq (oLd (cs:=[.im 0 _,.im 0 _]) j tF264 j j)<|xq (oCa (xs:=[.v true [.im 0 _,.im 0 _],.v true [.im 0 _,.im 0 _],.v true [.im 0 _,.im 0 _],.v true [.im 0 _,.im 0 _]]) (vs:=[(false,[.im 0 _])]) (v:=.v false [.im 0 _]) (L_spec_l02Crosses hx13) (.inl j) j kF320_264_264_264_264 j (ppC j (ppC j (ppC j (ppC j pp0)))) j j pb0 j j j)<|xq (oMv j j)<|?_
  refine ic hm5 (fun hc1 hm5=>?_) fun hc1 hm5=>?_
  ·cases hm5
   exact xsgF j j (iR.2 hc1) j<|xsgF j j (iR.2 hc1) j<|xsgF j j (iR.2 hc1) j<|xsgF j j (iR.2 hc1) j<|xq (oPkT j j (iR.2 hc1) j)<|xq (oMv j j)<|xsgF j j j j<|xsgF j j j j<|xsgF j j j j<|xsgF j j j j<|xq (oPkT j j j j)<|xq (oMv j j)<|xsgF j j j j<|xsgF j j j j<|xsgF j j j j<|xsgF j j j j<|xq (oPkT j j j j)<|xq (oMv j j)<|xsgF j j j j<|xsgF j j j j<|xsgF j j j j<|xsgF j j j j<|xq (oPkT j j j j)<|xq (oAsI j j)<|xn
  ·obtain ⟨x18,hx18,hm5⟩:=bs hm5
   refine xqT j j (byF iR hc1) (oLd (cs:=[.im 0 _,.im 0 _]) j tF264 j j)<|xqT j j (byF iR hc1) (oLd (cs:=[.im 0 _,.im 0 _]) j tF264 j j)<|xqT j j (byF iR hc1) (oLd (cs:=[.im 0 _,.im 0 _]) j tF264 j j)<|xqT j j (byF iR hc1) (oCa (xs:=[.v true [.im 0 _,.im 0 _],.v true [.im 0 _,.im 0 _],.v true [.im 0 _,.im 0 _]]) (vs:=[(false,[.im 0 _])]) (v:=.v false [.im 0 _]) (L_spec_l02On hx18) (.inl j) j kF271_264_264_264 j (ppC j (ppC j (ppC j pp0))) j j pb0 j j j)<|xq (oPkF j j (byF iR hc1) j)<|xq (oMv j j)<|?_
   refine ic hm5 (fun hc2 hm5=>?_) fun hc2 hm5=>?_
   ·cases hm5
    exact xsgF j j (iR.2 hc2) j<|xsgF j j (iR.2 hc2) j<|xsgF j j (iR.2 hc2) j<|xsgF j j (iR.2 hc2) j<|xq (oPkT j j (iR.2 hc2) j)<|xq (oMv j j)<|xsgF j j j j<|xsgF j j j j<|xsgF j j j j<|xsgF j j j j<|xq (oPkT j j j j)<|xq (oMv j j)<|xsgF j j j j<|xsgF j j j j<|xsgF j j j j<|xsgF j j j j<|xq (oPkT j j j j)<|xq (oAsI j j)<|xn
   ·obtain ⟨x24,hx24,hm5⟩:=bs hm5
    refine xqT j j (byF iR hc2) (oLd (cs:=[.im 0 _,.im 0 _]) j tF264 j j)<|xqT j j (byF iR hc2) (oLd (cs:=[.im 0 _,.im 0 _]) j tF264 j j)<|xqT j j (byF iR hc2) (oLd (cs:=[.im 0 _,.im 0 _]) j tF264 j j)<|xqT j j (byF iR hc2) (oCa (xs:=[.v true [.im 0 _,.im 0 _],.v true [.im 0 _,.im 0 _],.v true [.im 0 _,.im 0 _]]) (vs:=[(false,[.im 0 _])]) (v:=.v false [.im 0 _]) (L_spec_l02On hx24) (.inl j) j kF271_264_264_264 j (ppC j (ppC j (ppC j pp0))) j j pb0 j j j)<|xq (oPkF j j (byF iR hc2) j)<|xq (oMv j j)<|?_
    refine ic hm5 (fun hc3 hm5=>?_) fun hc3 hm5=>?_
    ·cases hm5
     exact xsgF j j (iR.2 hc3) j<|xsgF j j (iR.2 hc3) j<|xsgF j j (iR.2 hc3) j<|xsgF j j (iR.2 hc3) j<|xq (oPkT j j (iR.2 hc3) j)<|xq (oMv j j)<|xsgF j j j j<|xsgF j j j j<|xsgF j j j j<|xsgF j j j j<|xq (oPkT j j j j)<|xq (oAsI j j)<|xn
    ·obtain ⟨x30,hx30,hm5⟩:=bs hm5
     refine xqT j j (byF iR hc3) (oLd (cs:=[.im 0 _,.im 0 _]) j tF264 j j)<|xqT j j (byF iR hc3) (oLd (cs:=[.im 0 _,.im 0 _]) j tF264 j j)<|xqT j j (byF iR hc3) (oLd (cs:=[.im 0 _,.im 0 _]) j tF264 j j)<|xqT j j (byF iR hc3) (oCa (xs:=[.v true [.im 0 _,.im 0 _],.v true [.im 0 _,.im 0 _],.v true [.im 0 _,.im 0 _]]) (vs:=[(false,[.im 0 _])]) (v:=.v false [.im 0 _]) (L_spec_l02On hx30) (.inl j) j kF271_264_264_264 j (ppC j (ppC j (ppC j pp0))) j j pb0 j j j)<|xq (oPkF j j (byF iR hc3) j)<|xq (oMv j j)<|?_
     refine ic hm5 (fun hc4 hm5=>?_) fun hc4 hm5=>?_
     ·cases hm5
      exact xsgF j j (iR.2 hc4) j<|xsgF j j (iR.2 hc4) j<|xsgF j j (iR.2 hc4) j<|xsgF j j (iR.2 hc4) j<|xq (oPkT j j (iR.2 hc4) j)<|xq (oAsI j j)<|xn
     ·obtain ⟨x36,hx36,hm5⟩:=bs hm5
      cases hm5
      exact xqT j j (byF iR hc4) (oLd (cs:=[.im 0 _,.im 0 _]) j tF264 j j)<|xqT j j (byF iR hc4) (oLd (cs:=[.im 0 _,.im 0 _]) j tF264 j j)<|xqT j j (byF iR hc4) (oLd (cs:=[.im 0 _,.im 0 _]) j tF264 j j)<|xqT j j (byF iR hc4) (oCa (xs:=[.v true [.im 0 _,.im 0 _],.v true [.im 0 _,.im 0 _],.v true [.im 0 _,.im 0 _]]) (vs:=[(false,[.im 0 _])]) (v:=.v false [.im 0 _]) (L_spec_l02On hx36) (.inl j) j kF271_264_264_264 j (ppC j (ppC j (ppC j pp0))) j j pb0 j j j)<|xq (oPkF j j (byF iR hc4) j)<|xq (oAsI j j)<|xn
 ·refine us<|Go.ret (Unw.ret ?_)
  cases h
  exact fr rF272 j
theorem L_spec_l03Area {p_0:(List S_Point)} {r:Int} (h:spec_l03Area p_0=some r):FX 273 [.im 2 false [W 2 e_S_Point p_0]] (B0 [(false,[.im 0 (I r)])]):=by
 unfold spec_l03Area at h
 refine gn 40 Try.func273 rfl ?_
 refine gs<|g0 j j (q (oAsI j j)<|nl)<|us<|gs<|g0 j j (q (oAsI j j)<|nl)<|us<|gs<|gs<|g0 j j (q (oAsI j j)<|nl)<|us<|Go.block<|?_
 obtain ⟨o,hl,h⟩:=bs h
 refine gl c273 j _ (fun (s:(Int×Int))=>match s with | (sum_3_l3,i_4_l3)=>mk [(0,D 2 (W 2 e_S_Point p_0)),(3,iv sum_3_l3),(4,iv i_4_l3)] []) (fun (sum_3_e0_3:Int) (p:Ex×St)=>p.1= .exit 0∧p.2.norm ([3],[])=mk [(3,iv sum_3_e0_3)] []) hl (by kernel_rfl) ?_ ?_ ?_
 ·intro o p hp e
  exact nomatch (hp.1.symm.trans e)
 ·rintro ⟨sum_3_l3,i_4_l3⟩ o h
  unfold spec_l03Area_l3 at h
  dsimp only at h
  refine gs<|gs<|g0 j j (q (oMv j j)<|q (oMv j j)<|q (oLnI j j uF23 j)<|q (oBi j j j j)<|nl)<|us<|gc h j iDec (fun hc3 h=>?_) fun hc3 h=>?_
  ·refine Go.skip<|us<|gs<|Go.block<|gs<|?_
   obtain ⟨x17,hx17,h⟩:=bs h
   obtain ⟨x18,hx18,h⟩:=bs h
   refine g0 j j (q (oMv j j)<|q (oMv j j)<|q (oBi j j j j)<|q (oMv j j)<|q (oLnI j j uF23 j)<|q (oRem j hx17 j j)<|q (oIAI j hx18 sF23 j j)<|q (oLd (cs:=[.im 2 _,.im 2 _]) j tF264 j j)<|q (oAl j tF264 (tkI (tkI tk0)))<|q (oSt tF264 j j j (tkI (tkI tk0)) j j j)<|nl)<|us<|?_
   obtain ⟨x23,hx23,h⟩:=bs h
   obtain ⟨x31,hx31,h⟩:=bs h
   refine gd c273 j j j (st1:=mk [(0,D 2 (W 2 e_S_Point p_0)),(3,iv sum_3_l3),(4,iv i_4_l3),(5,M 5)] [(5,Oa (G 0 (u_S_Point x18)))]) (by kernel_rfl) (mk [(0,D 2 (W 2 e_S_Point p_0)),(3,iv (w64 (sum_3_l3+(w64 ((w64 (x23.X*x18.Y)) - (w64 (x31.Y*x18.X))))))),(4,iv i_4_l3)] []) (t j j (oMv j j)<|t j j (oMv j j)<|t j j (oMv j j)<|t j j (oIAI j hx23 sF23 j j)<|t j j (oFA (r':=.im 2 _) j fF264_0 j j)<|t j j (oLd (cs:=[.im 2 _]) j tF2 j j)<|t j j (oFA (r':=.mp 5 0 1) j fF264_1 j j)<|t j j (oLd (cs:=[.im 0 _]) j tF2 j j)<|t j j (oBi j j j j)<|t j j (oMv j j)<|t j j (oMv j j)<|t j j (oIAI j hx31 sF23 j j)<|t j j (oFA (r':=.im 2 _) j fF264_1 j j)<|t j j (oLd (cs:=[.im 2 _]) j tF2 j j)<|t j j (oFA (r':=.mp 5 0 0) j fF264_0 j j)<|t j j (oLd (cs:=[.im 0 _]) j tF2 j j)<|t j j (oBi j j j j)<|t j j (oBi j j j j)<|t j j (oBi j j j j)<|sS (dN z273 j (oAsI j j)) trivial (sD (by kernel_rfl)))<|Unw.blk<|us<|g0 j j (q (oMv j j)<|q (oBi j j j j)<|q (oAsI j j)<|nl)<|Unw.nil<|?_
   cases h
   exact ⟨j,(by kernel_rfl)⟩
  ·refine Go.exit<|ux<|Unw.nil<|?_
   cases h
   exact ⟨j,(by kernel_rfl)⟩
 ·rintro ⟨e,st⟩ hp
  obtain ⟨sum_3_e0_3,rfl⟩:∃y,y=o:=⟨o,rfl⟩
  obtain ⟨he,hst⟩:=hp
  obtain rfl:e= .exit 0:=he
  refine Unw.blkx<|us<|gs<|g2 c273 j j hst (q (oMv j j)<|q (oAsI j j)<|nl)<|us<|Go.ret (Unw.ret ?_)
  cases h
  exact fr rF273 j
theorem L_spec_l03Ok {p_0:(List S_Point)} {r:Bool} (h:spec_l03Ok p_0=some r):FX 174 [.im 2 false [W 2 e_S_Point p_0]] (B0 [(false,[.im 0 (V r)])]):=by
 unfold spec_l03Ok at h
 refine gn 99 Try.func174 rfl ?_
 refine gs<|g0 j j (q (oAsI j j)<|nl)<|us<|gs<|g0 j j (q (oMv j j)<|q (oLnI j j uF23 j)<|q (oAsI j j)<|nl)<|us<|gs<|gs<|gX c174 j j j (mk [(0,D 2 (W 2 e_S_Point p_0)),(3,iv (p_0.length:Int)),(17,bv ((decide ((p_0.length:Int) <3))||(decide ((p_0.length:Int) >24))))] []) ?_ ?_
 ·refine xq (oMv j j)<|xq (oBi j j j j)<|xq (oMv j j)<|?_
  by_cases hc1:(p_0.length:Int) <3
  ·exact xsgF rfl rfl (iDec.2 hc1) rfl<|xsgF rfl rfl (iDec.2 hc1) rfl<|xq (oPkT rfl rfl (iDec.2 hc1) rfl)<|xn (Eq.trans (b:=(fun t_17_m2:Bool=>mk [(0,D 2 (W 2 e_S_Point p_0)),(3,iv (p_0.length:Int)),(17,bv t_17_m2)] []) true) (by kernel_rfl) (congrArg (fun t_17_m2:Bool=>mk [(0,D 2 (W 2 e_S_Point p_0)),(3,iv (p_0.length:Int)),(17,bv t_17_m2)] []) (by first | rfl | (simp [(iDec.2 hc1)];done) | (simp [(iDec.2 hc1)];omega))))
  ·exact xqT rfl rfl (byF iDec hc1) (oMv rfl rfl)<|xqT rfl rfl (byF iDec hc1) (oBi rfl rfl rfl rfl)<|xq (oPkF rfl rfl (byF iDec hc1) rfl)<|xn (Eq.trans (b:=(fun t_17_m2:Bool=>mk [(0,D 2 (W 2 e_S_Point p_0)),(3,iv (p_0.length:Int)),(17,bv t_17_m2)] []) (decide ((p_0.length:Int) >24))) (by kernel_rfl) (congrArg (fun t_17_m2:Bool=>mk [(0,D 2 (W 2 e_S_Point p_0)),(3,iv (p_0.length:Int)),(17,bv t_17_m2)] []) (by first | rfl | (simp [(byF iDec hc1)];done) | (simp [(byF iDec hc1)];omega))))
 ·refine us<|gc h j (iOr iDec iDec) (fun hc2 h=>?_) fun hc2 h=>?_
  ·refine gs<|g0 j j (q (oAsI j j)<|nl)<|us<|Go.ret (Unw.ret ?_)
   cases h
   exact fr rF174 j
  ·refine Go.skip<|us<|gs<|gs<|g0 j j (q (oAsI j j)<|nl)<|us<|Go.block<|?_
   obtain ⟨o,hl,h⟩:=bs h
   refine gl c174 j _ (fun (i_4_l5:Int)=>mk [(0,D 2 (W 2 e_S_Point p_0)),(3,iv (p_0.length:Int)),(4,iv i_4_l5)] []) (fun (o:(Unit ⊕ Bool)) (p:Ex×St)=>match o with | (.inl _)=>p.1= .exit 0∧p.2.norm ([0,3],[])=mk [(0,D 2 (W 2 e_S_Point p_0)),(3,iv (p_0.length:Int))] [] | (.inr r2)=>p.1= .ret∧fin Try.prog cfg 174 Try.f174 [.im 2 false [W 2 e_S_Point p_0]] p.2=some (B0 [(false,[.im 0 (V r2)])])) hl (by kernel_rfl) ?_ ?_ ?_
   ·intro o p hp e
    rcases o with u | r2<;>exact nomatch (hp.1.symm.trans e)
   ·rintro i_4_l5 o h
    unfold spec_l03Ok_l5 at h
    refine gs<|gs<|g0 j j (q (oMv j j)<|q (oMv j j)<|q (oBi j j j j)<|nl)<|us<|gc h j iDec (fun hc50 h=>?_) fun hc50 h=>?_
    ·refine Go.skip<|us<|gs<|Go.block<|gs<|?_
     obtain ⟨x25,hx25,h⟩:=bs h
     obtain ⟨x27,hx27,h⟩:=bs h
     refine g0 j j (q (oMv j j)<|q (oMv j j)<|q (oIAI j hx25 sF23 j j)<|q (oLd (cs:=[.im 2 _,.im 2 _]) j tF264 j j)<|q (oCa (xs:=[.v true [.im 2 _,.im 2 _]]) (vs:=[(false,[.im 0 _])]) (v:=.v false [.im 0 _]) (L_spec_l02Ok hx27) (.inl j) j kF270_264 j (ppC j pp0) j j pb0 j j j)<|q (oUn j j j)<|nl)<|us<|?_
     by_cases hc51:x27=true
     ·rw [if_pos hc51] at h
      refine gF j (nF (iR.2 hc51))<|Go.skip<|Unw.blk<|us<|g0 j j (q (oMv j j)<|q (oBi j j j j)<|q (oAsI j j)<|nl)<|Unw.nil<|?_
      cases h
      exact ⟨j,(by kernel_rfl)⟩
     ·rw [if_neg hc51] at h
      refine gT j (nT (byF iR hc51))<|gs<|g0 j j (q (oAsI j j)<|nl)<|us<|Go.ret (Unw.ret ?_)
      cases h
      exact ⟨j,(fo rF174 j)⟩
    ·refine Go.exit<|ux<|Unw.nil<|?_
     cases h
     exact ⟨j,(by kernel_rfl)⟩
   ·rintro ⟨e,st⟩ hp
    rcases o with u | r2
    ·dsimp only at h
     obtain ⟨he,hst⟩:=hp
     obtain rfl:e= .exit 0:=he
     refine Unw.blkx<|us<|gs<|gs<|g2 c174 j j hst (q (oAsI j j)<|nl)<|us<|Go.block<|?_
     obtain ⟨o,hl,h⟩:=bs h
     refine gl c174 j _ (fun (i_5_l10:Int)=>mk [(0,D 2 (W 2 e_S_Point p_0)),(3,iv (p_0.length:Int)),(5,iv i_5_l10)] []) (fun (o:(Unit ⊕ Bool)) (p:Ex×St)=>match o with | (.inl _)=>p.1= .exit 2∧p.2.norm ([0],[])=mk [(0,D 2 (W 2 e_S_Point p_0))] [] | (.inr r2)=>p.1= .ret∧fin Try.prog cfg 174 Try.f174 [.im 2 false [W 2 e_S_Point p_0]] p.2=some (B0 [(false,[.im 0 (V r2)])])) hl (by kernel_rfl) ?_ ?_ ?_
     ·intro o p hp e
      rcases o with u | r2<;>exact nomatch (hp.1.symm.trans e)
     ·rintro i_5_l10 o h
      unfold spec_l03Ok_l10 at h
      refine gs<|gs<|g0 j j (q (oMv j j)<|q (oMv j j)<|q (oBi j j j j)<|nl)<|us<|gc h j iDec (fun hc33 h=>?_) fun hc33 h=>?_
      ·refine Go.skip<|us<|gs<|Go.block<|gs<|?_
       obtain ⟨x36,hx36,h⟩:=bs h
       refine g0 j j (q (oMv j j)<|q (oMv j j)<|q (oIAI j hx36 sF23 j j)<|q (oLd (cs:=[.im 2 _,.im 2 _]) j tF264 j j)<|q (oAl j tF264 (tkI (tkI tk0)))<|q (oSt tF264 j j j (tkI (tkI tk0)) j j j)<|nl)<|us<|gs<|?_
       obtain ⟨x42,hx42,h⟩:=bs h
       obtain ⟨x43,hx43,h⟩:=bs h
       refine g1 j j (mk [(0,D 2 (W 2 e_S_Point p_0)),(3,iv (p_0.length:Int)),(5,iv i_5_l10),(6,M 6)] [(6,Oa (G 0 (u_S_Point x36)))]) (q (oMv j j)<|q (oMv j j)<|q (oBi j j j j)<|q (oMv j j)<|q (oRem j hx42 j j)<|q (oIAI j hx43 sF23 j j)<|q (oLd (cs:=[.im 2 _,.im 2 _]) j tF264 j j)<|q (oAl j tF264 (tkI (tkI tk0)))<|q (oSt tF264 j j j (tkI (tkI tk0)) j j j)<|nl)<|us<|gs<|?_
       obtain ⟨x49,hx49,h⟩:=bs h
       obtain ⟨x50,hx50,h⟩:=bs h
       refine g1 j j (mk [(0,D 2 (W 2 e_S_Point p_0)),(3,iv (p_0.length:Int)),(5,iv i_5_l10),(6,M 6),(7,M 7)] [(6,Oa (G 0 (u_S_Point x36))),(7,Oa (G 0 (u_S_Point x43)))]) (q (oMv j j)<|q (oMv j j)<|q (oBi j j j j)<|q (oMv j j)<|q (oRem j hx49 j j)<|q (oIAI j hx50 sF23 j j)<|q (oLd (cs:=[.im 2 _,.im 2 _]) j tF264 j j)<|q (oAl j tF264 (tkI (tkI tk0)))<|q (oSt tF264 j j j (tkI (tkI tk0)) j j j)<|nl)<|us<|gs<|gs<|?_
       obtain ⟨t_66_m15,hm49,h⟩:=bs h
       refine gX c174 j j (st1:=mk [(0,D 2 (W 2 e_S_Point p_0)),(3,iv (p_0.length:Int)),(5,iv i_5_l10),(6,M 6),(7,M 7),(8,M 8)] [(6,Oa (G 0 (u_S_Point x36))),(7,Oa (G 0 (u_S_Point x43))),(8,Oa (G 0 (u_S_Point x50)))]) (by kernel_rfl) (mk [(0,D 2 (W 2 e_S_Point p_0)),(3,iv (p_0.length:Int)),(5,iv i_5_l10),(6,M 6),(7,M 7),(66,bv t_66_m15)] [(6,Oa (G 0 (u_S_Point x36))),(7,Oa (G 0 (u_S_Point x43)))]) ?_ ?_
       ·refine xq (oLd (cs:=[.im 0 _,.im 0 _]) j tF264 j j)<|xq (oLd (cs:=[.im 0 _,.im 0 _]) j tF264 j j)<|xq (oBa j (qEF264 x36.X x36.Y x43.X x43.Y) j j j j)<|xq (oMv j j)<|?_
        refine ic hm49 (fun hc34 hm49=>?_) fun hc34 hm49=>?_
        ·cases hm49
         exact xsgF j j ((iAnd iEq iEq).2 hc34) j<|xsgF j j ((iAnd iEq iEq).2 hc34) j<|xsgF j j ((iAnd iEq iEq).2 hc34) j<|xsgF j j ((iAnd iEq iEq).2 hc34) j<|xq (oPkT j j ((iAnd iEq iEq).2 hc34) j)<|xq (oMv j j)<|xsgF j j j j<|xsgF j j j j<|xsgF j j j j<|xsgF j j j j<|xq (oPkT j j j j)<|xn
        ·obtain ⟨x59,hx59,hm49⟩:=bs hm49
         refine xqT j j (byF (iAnd iEq iEq) hc34) (oLd (cs:=[.im 0 _,.im 0 _]) j tF264 j j)<|xqT j j (byF (iAnd iEq iEq) hc34) (oLd (cs:=[.im 0 _,.im 0 _]) j tF264 j j)<|xqT j j (byF (iAnd iEq iEq) hc34) (oLd (cs:=[.im 0 _,.im 0 _]) j tF264 j j)<|xqT j j (byF (iAnd iEq iEq) hc34) (oCa (xs:=[.v true [.im 0 _,.im 0 _],.v true [.im 0 _,.im 0 _],.v true [.im 0 _,.im 0 _]]) (vs:=[(false,[.im 0 _])]) (v:=.v false [.im 0 _]) (L_spec_l02On hx59) (.inl j) j kF271_264_264_264 j (ppC j (ppC j (ppC j pp0))) j j pb0 j j j)<|xq (oPkF j j (byF (iAnd iEq iEq) hc34) j)<|xq (oMv j j)<|?_
         refine ic hm49 (fun hc35 hm49=>?_) fun hc35 hm49=>?_
         ·cases hm49
          exact xsgF j j (iR.2 hc35) j<|xsgF j j (iR.2 hc35) j<|xsgF j j (iR.2 hc35) j<|xsgF j j (iR.2 hc35) j<|xq (oPkT j j (iR.2 hc35) j)<|xn
         ·obtain ⟨x65,hx65,hm49⟩:=bs hm49
          cases hm49
          exact xqT j j (byF iR hc35) (oLd (cs:=[.im 0 _,.im 0 _]) j tF264 j j)<|xqT j j (byF iR hc35) (oLd (cs:=[.im 0 _,.im 0 _]) j tF264 j j)<|xqT j j (byF iR hc35) (oLd (cs:=[.im 0 _,.im 0 _]) j tF264 j j)<|xqT j j (byF iR hc35) (oCa (xs:=[.v true [.im 0 _,.im 0 _],.v true [.im 0 _,.im 0 _],.v true [.im 0 _,.im 0 _]]) (vs:=[(false,[.im 0 _])]) (v:=.v false [.im 0 _]) (L_spec_l02On hx65) (.inl j) j kF271_264_264_264 j (ppC j (ppC j (ppC j pp0))) j j pb0 j j j)<|xq (oPkF j j (byF iR hc35) j)<|xn
       ·refine us<|gc h j iR (fun hc36 h=>?_) fun hc36 h=>?_
        ·refine gs<|g0 j j (q (oAsI j j)<|nl)<|us<|Go.ret (Unw.ret ?_)
         cases h
         exact ⟨j,(fo rF174 j)⟩
        ·refine Go.skip<|us<|gs<|g0 j j (q (oMv j j)<|q (oBi j j j j)<|q (oAsI j j)<|nl)<|us<|Go.block<|?_
         obtain ⟨o,hl,h⟩:=bs h
         refine gl c174 j _ (fun (k_9_l18:Int)=>mk [(0,D 2 (W 2 e_S_Point p_0)),(3,iv (p_0.length:Int)),(5,iv i_5_l10),(6,M 6),(7,M 7),(9,iv k_9_l18)] [(6,Oa (G 0 (u_S_Point x36))),(7,Oa (G 0 (u_S_Point x43)))]) (fun (o:(Unit ⊕ Bool)) (p:Ex×St)=>match o with | (.inl _)=>p.1= .exit 4∧p.2.norm ([0,3,5],[])=mk [(0,D 2 (W 2 e_S_Point p_0)),(3,iv (p_0.length:Int)),(5,iv i_5_l10)] [] | (.inr r2)=>p.1= .ret∧fin Try.prog cfg 174 Try.f174 [.im 2 false [W 2 e_S_Point p_0]] p.2=some (B0 [(false,[.im 0 (V r2)])])) hl (by kernel_rfl) ?_ ?_ ?_
         ·intro o p hp e
          rcases o with u | r2<;>exact nomatch (hp.1.symm.trans e)
         ·rintro k_9_l18 o h
          unfold spec_l03Ok_l18 at h
          refine gs<|gs<|g0 j j (q (oMv j j)<|q (oMv j j)<|q (oBi j j j j)<|nl)<|us<|gc h j iDec (fun hc45 h=>?_) fun hc45 h=>?_
          ·refine Go.skip<|us<|gs<|Go.block<|gs<|?_
           obtain ⟨x77,hx77,h⟩:=bs h
           obtain ⟨t_95_m20,hm48,h⟩:=bs h
           refine gd c174 j j j j (mk [(0,D 2 (W 2 e_S_Point p_0)),(3,iv (p_0.length:Int)),(5,iv i_5_l10),(6,M 6),(7,M 7),(9,iv k_9_l18),(95,bv t_95_m20)] [(6,Oa (G 0 (u_S_Point x36))),(7,Oa (G 0 (u_S_Point x43)))]) ?_ ?_
           ·refine t j j (oMv j j)<|t j j (oBi j j j j)<|t j j (oMv j j)<|t j j (oRem j hx77 j j)<|t j j (oMv j j)<|t j j (oBi j j j j)<|t j j (oMv j j)<|?_
            refine ic hm48 (fun hc46 hm48=>?_) fun hc46 hm48=>?_
            ·obtain ⟨x85,hx85,hm48⟩:=bs hm48
             obtain ⟨x91,hx91,hm48⟩:=bs hm48
             obtain ⟨x92,hx92,hm48⟩:=bs hm48
             obtain ⟨x94,hx94,hm48⟩:=bs hm48
             cases hm48
             exact tT j j j j (iNe.2 hc46) (oLd (cs:=[.im 0 _,.im 0 _]) j tF264 j j)<|tT j j j j (iNe.2 hc46) (oLd (cs:=[.im 0 _,.im 0 _]) j tF264 j j)<|tT j j j j (iNe.2 hc46) (oMv j j)<|tT j j j j (iNe.2 hc46) (oMv j j)<|tT j j j j (iNe.2 hc46) (oIAI j hx85 sF23 j j)<|tT j j j j (iNe.2 hc46) (oLd (cs:=[.im 2 _,.im 2 _]) j tF264 j j)<|tT j j j j (iNe.2 hc46) (oMv j j)<|tT j j j j (iNe.2 hc46) (oMv j j)<|tT j j j j (iNe.2 hc46) (oBi j j j j)<|tT j j j j (iNe.2 hc46) (oMv j j)<|tT j j j j (iNe.2 hc46) (oRem j hx91 j j)<|tT j j j j (iNe.2 hc46) (oIAI j hx92 sF23 j j)<|tT j j j j (iNe.2 hc46) (oLd (cs:=[.im 2 _,.im 2 _]) j tF264 j j)<|sS (dT z174 j j j (iNe.2 hc46) (oCa (xs:=[.v true [.im 0 _,.im 0 _],.v true [.im 0 _,.im 0 _],.v true [.im 2 _,.im 2 _],.v true [.im 2 _,.im 2 _]]) (vs:=[(false,[.im 0 _])]) (v:=.v false [.im 0 _]) (L_spec_l03Meet hx94) (.inl j) j kF272_264_264_264_264 j (ppC j (ppC j (ppC j (ppC j pp0)))) j j pb0 j j j)) trivial (t j j (oPkT j j (iNe.2 hc46) j)<|sD (by kernel_rfl))
            ·cases hm48
             exact tF j j j j (byF iNe hc46) j<|tF j j j j (byF iNe hc46) j<|tF j j j j (byF iNe hc46) j<|tF j j j j (byF iNe hc46) j<|tF j j j j (byF iNe hc46) j<|tF j j j j (byF iNe hc46) j<|tF j j j j (byF iNe hc46) j<|tF j j j j (byF iNe hc46) j<|tF j j j j (byF iNe hc46) j<|tF j j j j (byF iNe hc46) j<|tF j j j j (byF iNe hc46) j<|tF j j j j (byF iNe hc46) j<|tF j j j j (byF iNe hc46) j<|sS (dF j j j (byF iNe hc46) j) trivial (t j j (oPkF j j (byF iNe hc46) j)<|sD (by kernel_rfl))
           ·refine us<|gc h j iR (fun hc47 h=>?_) fun hc47 h=>?_
            ·refine gs<|g0 j j (q (oAsI j j)<|nl)<|us<|Go.ret (Unw.ret ?_)
             cases h
             exact ⟨j,(fo rF174 j)⟩
            ·refine Go.skip<|Unw.blk<|us<|g0 j j (q (oMv j j)<|q (oBi j j j j)<|q (oAsI j j)<|nl)<|Unw.nil<|?_
             cases h
             exact ⟨j,(by kernel_rfl)⟩
          ·refine Go.exit<|ux<|Unw.nil<|?_
           cases h
           exact ⟨j,(by kernel_rfl)⟩
         ·rintro ⟨e,st⟩ hp
          rcases o with u | r2
          ·dsimp only at h
           obtain ⟨he,hst⟩:=hp
           obtain rfl:e= .exit 4:=he
           refine Unw.blkx<|Unw.blk<|us<|g2 c174 j j hst (q (oMv j j)<|q (oBi j j j j)<|q (oAsI j j)<|nl)<|Unw.nil<|?_
           cases h
           exact ⟨j,(by kernel_rfl)⟩
          ·dsimp only at h
           obtain ⟨he,hfin⟩:=hp
           obtain rfl:e= .ret:=he
           cases h
           exact Unw.ret ⟨j,hfin⟩
      ·refine Go.exit<|ux<|Unw.nil<|?_
       cases h
       exact ⟨j,(by kernel_rfl)⟩
     ·rintro ⟨e,st⟩ hp
      rcases o with u | r2
      ·dsimp only at h
       obtain ⟨he,hst⟩:=hp
       obtain rfl:e= .exit 2:=he
       refine Unw.blkx<|us<|gs<|?_
       obtain ⟨x97,hx97,h⟩:=bs h
       refine g2 c174 j j hst (q (oMv j j)<|q (oCa (xs:=[.v false [.im 2 _]]) (vs:=[(false,[.im 0 _])]) (v:=.v false [.im 0 _]) (L_spec_l03Area hx97) (.inl j) j kF273_23 j (ppC j pp0) j j pb0 j j j)<|q (oBi j j j j)<|q (oAsI j j)<|nl)<|us<|Go.ret (Unw.ret ?_)
       cases h
       exact fr rF174 j
      ·dsimp only at h
       obtain ⟨he,hfin⟩:=hp
       obtain rfl:e= .ret:=he
       cases h
       exact Unw.ret (Fin_ret hfin)
    ·dsimp only at h
     obtain ⟨he,hfin⟩:=hp
     obtain rfl:e= .ret:=he
     cases h
     exact Unw.ret (Fin_ret hfin)
theorem L_spec_l05Ok {d_0:S_Drawing} {r:Bool} (h:spec_l05Ok d_0=some r):FX 84 [.im 2 false [.cp (u_S_Drawing d_0) 0]] (B0 [(false,[.im 0 (V r)])]):=by
 unfold spec_l05Ok at h
 refine gn 96 Try.func84 rfl ?_
 refine gs<|g0 j j (q (oAsI j j)<|nl)<|us<|gs<|gs<|?_
 obtain ⟨x10,hx10,h⟩:=bs h
 obtain ⟨t_32_m1,hm29,h⟩:=bs h
 refine gX c84 j j j (mk [(0,D 2 (.cp (u_S_Drawing d_0) 0)),(32,bv t_32_m1)] []) ?_ ?_
 ·refine xq (oMv j j)<|xq (oNl j j j)<|xq (oFA (r':=.im 2 _) j fF26_0 j j)<|xq (oLd (cs:=[.im 2 _]) j tF2 j j)<|xq (oCa (xs:=[.v false [.im 2 _],.v false [.im 0 _],.v false [.im 0 _]]) (vs:=[(false,[.im 0 _])]) (v:=.v false [.im 0 _]) (L_spec_l00In hx10) (.inl j) j kF94_2_2_2 j (ppC j (ppC j (ppC j pp0))) j j pb0 j j j)<|xq (oUn j j j)<|xq (oMv j j)<|?_
  refine ic hm29 (fun hc1 hm29=>?_) fun hc1 hm29=>?_
  ·obtain ⟨x17,hx17,hm29⟩:=bs hm29
   refine xqT j j (nF (iR.2 hc1)) (oMv j j)<|xqT j j (nF (iR.2 hc1)) (oNl j j j)<|xqT j j (nF (iR.2 hc1)) (oFA (r':=.im 2 _) j fF26_1 j j)<|xqT j j (nF (iR.2 hc1)) (oLd (cs:=[.im 2 _]) j tF2 j j)<|xqT j j (nF (iR.2 hc1)) (oCa (xs:=[.v false [.im 2 _],.v false [.im 0 _],.v false [.im 0 _]]) (vs:=[(false,[.im 0 _])]) (v:=.v false [.im 0 _]) (L_spec_l00In hx17) (.inl j) j kF94_2_2_2 j (ppC j (ppC j (ppC j pp0))) j j pb0 j j j)<|xqT j j (nF (iR.2 hc1)) (oUn j j j)<|xq (oPkF j j (nF (iR.2 hc1)) j)<|xq (oMv j j)<|?_
   refine ic hm29 (fun hc2 hm29=>?_) fun hc2 hm29=>?_
   ·obtain ⟨x22,hx22,hm29⟩:=bs hm29
    refine xqT j j (nF (iR.2 hc2)) (oMv j j)<|xqT j j (nF (iR.2 hc2)) (oCa (xs:=[.v false [.im 2 _]]) (vs:=[(false,[.im 0 _])]) (v:=.v false [.im 0 _]) (L_spec_l05Points hx22) (.inl j) j kF171_141 j (ppC j pp0) j j pb0 j j j)<|xqT j j (nF (iR.2 hc2)) (oUn j j j)<|xq (oPkF j j (nF (iR.2 hc2)) j)<|xq (oMv j j)<|?_
    refine ic hm29 (fun hc3 hm29=>?_) fun hc3 hm29=>?_
    ·cases hm29
     exact xqT j j (nF (iR.2 hc3)) (oMv j j)<|xqT j j (nF (iR.2 hc3)) (oNl j j j)<|xqT j j (nF (iR.2 hc3)) (oFA (r':=.im 2 _) j fF26_3 j j)<|xqT j j (nF (iR.2 hc3)) (oLd (cs:=[.im 2 _]) j tF24 j j)<|xqT j j (nF (iR.2 hc3)) (oLnI j j uF24 j)<|xqT j j (nF (iR.2 hc3)) (oBi j j j j)<|xq (oPkF j j (nF (iR.2 hc3)) j)<|xn
    ·cases hm29
     exact xsgF j j (nT (byF iR hc3)) j<|xsgF j j (nT (byF iR hc3)) j<|xsgF j j (nT (byF iR hc3)) j<|xsgF j j (nT (byF iR hc3)) j<|xsgF j j (nT (byF iR hc3)) j<|xsgF j j (nT (byF iR hc3)) j<|xq (oPkT j j (nT (byF iR hc3)) j)<|xn
   ·cases hm29
    exact xsgF j j (nT (byF iR hc2)) j<|xsgF j j (nT (byF iR hc2)) j<|xsgF j j (nT (byF iR hc2)) j<|xq (oPkT j j (nT (byF iR hc2)) j)<|xq (oMv j j)<|xsgF j j j j<|xsgF j j j j<|xsgF j j j j<|xsgF j j j j<|xsgF j j j j<|xsgF j j j j<|xq (oPkT j j j j)<|xn
  ·cases hm29
   exact xsgF j j (nT (byF iR hc1)) j<|xsgF j j (nT (byF iR hc1)) j<|xsgF j j (nT (byF iR hc1)) j<|xsgF j j (nT (byF iR hc1)) j<|xsgF j j (nT (byF iR hc1)) j<|xsgF j j (nT (byF iR hc1)) j<|xq (oPkT j j (nT (byF iR hc1)) j)<|xq (oMv j j)<|xsgF j j j j<|xsgF j j j j<|xsgF j j j j<|xq (oPkT j j j j)<|xq (oMv j j)<|xsgF j j j j<|xsgF j j j j<|xsgF j j j j<|xsgF j j j j<|xsgF j j j j<|xsgF j j j j<|xq (oPkT j j j j)<|xn
 ·refine us<|gc h j iR (fun hc4 h=>?_) fun hc4 h=>?_
  ·refine gs<|g0 j j (q (oAsI j j)<|nl)<|us<|Go.ret (Unw.ret ?_)
   cases h
   exact fr rF84 j
  ·refine Go.skip<|us<|gs<|gs<|g0 j j (q (oAsI j j)<|nl)<|us<|Go.block<|?_
   obtain ⟨o,hl,h⟩:=bs h
   refine gl c84 j _ (fun (i_3_l4:Int)=>mk [(0,D 2 (.cp (u_S_Drawing d_0) 0)),(3,iv i_3_l4)] []) (fun (o:(Unit ⊕ Bool)) (p:Ex×St)=>match o with | (.inl _)=>p.1= .exit 0∧p.2.norm ([],[])=mk [] [] | (.inr r2)=>p.1= .ret∧fin Try.prog cfg 84 Try.f84 [.im 2 false [.cp (u_S_Drawing d_0) 0]] p.2=some (B0 [(false,[.im 0 (V r2)])])) hl (by kernel_rfl) ?_ ?_ ?_
   ·intro o p hp e
    rcases o with u | r2<;>exact nomatch (hp.1.symm.trans e)
   ·rintro i_3_l4 o h
    unfold spec_l05Ok_l4 at h
    refine gs<|gs<|g0 j j (q (oMv j j)<|q (oMv j j)<|q (oNl j j j)<|q (oFA (r':=.im 2 _) j fF26_3 j j)<|q (oLd (cs:=[.im 2 _]) j tF24 j j)<|q (oLnI j j uF24 j)<|q (oBi j j j j)<|nl)<|us<|gc h j iDec (fun hc21 h=>?_) fun hc21 h=>?_
    ·refine Go.skip<|us<|gs<|Go.block<|gs<|gs<|?_
     obtain ⟨x47,hx47,h⟩:=bs h
     obtain ⟨x50,hx50,h⟩:=bs h
     obtain ⟨t_75_m6,hm28,h⟩:=bs h
     refine gd c84 j j j j (mk [(0,D 2 (.cp (u_S_Drawing d_0) 0)),(3,iv i_3_l4),(75,bv t_75_m6)] []) ?_ ?_
     ·refine t j j (oMv j j)<|t j j (oNl j j j)<|t j j (oFA (r':=.im 2 _) j fF26_3 j j)<|t j j (oLd (cs:=[.im 2 _]) j tF24 j j)<|t j j (oMv j j)<|t j j (oIAI j hx47 sF24 j j)<|t j j (oFA (r':=.im 2 _) j fF257_0 j j)<|?_
      refine ic hm28 (fun hc22 hm28=>?_) fun hc22 hm28=>?_
      ·refine ic hm28 (fun hc23 hm28=>?_) fun hc23 hm28=>?_
       ·obtain ⟨x62,hx62,hm28⟩:=bs hm28
        obtain ⟨x70,hx70,hm28⟩:=bs hm28
        cases hm28
        exact t j j (oLd (cs:=[.im 2 _]) j tF9 j j)<|sS (dN z84 j (oCa (xs:=[.v false [.im 2 _]]) (vs:=[(false,[.im 0 _])]) (v:=.v false [.im 0 _]) (L_spec_l01Name hx50) (.inl j) j kF172_9 j (ppC j pp0) j j pb0 j j j)) trivial (t j j (oUn j j j)<|t j j (oMv j j)<|tT j j j j (nF (iR.2 hc22)) (oMv j j)<|tT j j j j (nF (iR.2 hc22)) (oBi j j j j)<|tT j j j j (nF (iR.2 hc22)) (oMv j j)<|tT j j j j (iDec.2 hc23) (oMv j j)<|tT j j j j (iDec.2 hc23) (oNl j j j)<|tT j j j j (iDec.2 hc23) (oFA (r':=.im 2 _) j fF26_3 j j)<|tT j j j j (iDec.2 hc23) (oLd (cs:=[.im 2 _]) j tF24 j j)<|tT j j j j (iDec.2 hc23) (oMv j j)<|tT j j j j (iDec.2 hc23) (oBi j j j j)<|tT j j j j (iDec.2 hc23) (oIAI j hx62 sF24 j j)<|tT j j j j (iDec.2 hc23) (oFA (r':=.im 2 _) j fF257_0 j j)<|tT j j j j (iDec.2 hc23) (oLd (cs:=[.im 2 _]) j tF9 j j)<|tT j j j j (iDec.2 hc23) (oMv j j)<|tT j j j j (iDec.2 hc23) (oNl j j j)<|tT j j j j (iDec.2 hc23) (oFA (r':=.im 2 _) j fF26_3 j j)<|tT j j j j (iDec.2 hc23) (oLd (cs:=[.im 2 _]) j tF24 j j)<|tT j j j j (iDec.2 hc23) (oMv j j)<|tT j j j j (iDec.2 hc23) (oIAI j hx70 sF24 j j)<|tT j j j j (iDec.2 hc23) (oFA (r':=.im 2 _) j fF257_0 j j)<|tT j j j j (iDec.2 hc23) (oLd (cs:=[.im 2 _]) j tF9 j j)<|tT j j j j (iDec.2 hc23) (oBi j j j j)<|tT j j j j (nF (iR.2 hc22)) (oPkT j j (iDec.2 hc23) j)<|t j j (oPkF j j (nF (iR.2 hc22)) j)<|sD (by kernel_rfl))
       ·cases hm28
        exact t j j (oLd (cs:=[.im 2 _]) j tF9 j j)<|sS (dN z84 j (oCa (xs:=[.v false [.im 2 _]]) (vs:=[(false,[.im 0 _])]) (v:=.v false [.im 0 _]) (L_spec_l01Name hx50) (.inl j) j kF172_9 j (ppC j pp0) j j pb0 j j j)) trivial (t j j (oUn j j j)<|t j j (oMv j j)<|tT j j j j (nF (iR.2 hc22)) (oMv j j)<|tT j j j j (nF (iR.2 hc22)) (oBi j j j j)<|tT j j j j (nF (iR.2 hc22)) (oMv j j)<|tF j j j j (byF iDec hc23) j<|tF j j j j (byF iDec hc23) j<|tF j j j j (byF iDec hc23) j<|tF j j j j (byF iDec hc23) j<|tF j j j j (byF iDec hc23) j<|tF j j j j (byF iDec hc23) j<|tF j j j j (byF iDec hc23) j<|tF j j j j (byF iDec hc23) j<|tF j j j j (byF iDec hc23) j<|tF j j j j (byF iDec hc23) j<|tF j j j j (byF iDec hc23) j<|tF j j j j (byF iDec hc23) j<|tF j j j j (byF iDec hc23) j<|tF j j j j (byF iDec hc23) j<|tF j j j j (byF iDec hc23) j<|tF j j j j (byF iDec hc23) j<|tF j j j j (byF iDec hc23) j<|tF j j j j (byF iDec hc23) j<|tT j j j j (nF (iR.2 hc22)) (oPkF j j (byF iDec hc23) j)<|t j j (oPkF j j (nF (iR.2 hc22)) j)<|sD (by kernel_rfl))
      ·cases hm28
       exact t j j (oLd (cs:=[.im 2 _]) j tF9 j j)<|sS (dN z84 j (oCa (xs:=[.v false [.im 2 _]]) (vs:=[(false,[.im 0 _])]) (v:=.v false [.im 0 _]) (L_spec_l01Name hx50) (.inl j) j kF172_9 j (ppC j pp0) j j pb0 j j j)) trivial (t j j (oUn j j j)<|t j j (oMv j j)<|tF j j j j (nT (byF iR hc22)) j<|tF j j j j (nT (byF iR hc22)) j<|tF j j j j (nT (byF iR hc22)) j<|sT j (dU j j j j)<|sT j (dU j j j j)<|sT j (dU j j j j)<|sT j (dU j j j j)<|sT j (dU j j j j)<|sT j (dU j j j j)<|sT j (dU j j j j)<|sT j (dU j j j j)<|sT j (dU j j j j)<|sT j (dU j j j j)<|sT j (dU j j j j)<|sT j (dU j j j j)<|sT j (dU j j j j)<|sT j (dU j j j j)<|sT j (dU j j j j)<|sT j (dU j j j j)<|sT j (dU j j j j)<|sT j (dU j j j j)<|tF j j j j (nT (byF iR hc22)) j<|t j j (oPkT j j (nT (byF iR hc22)) j)<|sD (by kernel_rfl))
     ·refine us<|gc h j iR (fun hc24 h=>?_) fun hc24 h=>?_
      ·refine gs<|g0 j j (q (oAsI j j)<|nl)<|us<|Go.ret (Unw.ret ?_)
       cases h
       exact ⟨j,(fo rF84 j)⟩
      ·refine Go.skip<|us<|gs<|?_
       obtain ⟨x83,hx83,h⟩:=bs h
       obtain ⟨x86,hx86,h⟩:=bs h
       refine g0 j j (q (oMv j j)<|q (oMv j j)<|q (oNl j j j)<|q (oFA (r':=.im 2 _) j fF26_3 j j)<|q (oLd (cs:=[.im 2 _]) j tF24 j j)<|q (oMv j j)<|q (oIAI j hx83 sF24 j j)<|q (oFA (r':=.im 2 _) j fF257_1 j j)<|q (oLd (cs:=[.im 2 _]) j tF28 j j)<|q (oCr (xs:=[.v false [.im 2 _],.v false [.im 2 _]]) (vs:=[(false,[.own 86 0 0]),(false,[.im 0 _])]) (v:=.tup [(false,[.own 86 0 0]),(false,[.im 0 _])]) (c:=⟨.sh,0,_⟩) (cs:=[]) (L_spec_l05Ring hx86) (.inl j) j kF173_141_28 j (ppC j (ppC j pp0)) j j pb0 j j j)<|q (oMvT j j)<|q (oEx j j j)<|q (oEx j j j)<|q (oAsO j j j j j)<|q (oAsI j j)<|nl)<|us<|gs<|?_
       obtain ⟨t_95_m9,hm27,h⟩:=bs h
       refine gX c84 j j j (mk [(0,D 2 (.cp (u_S_Drawing d_0) 0)),(3,iv i_3_l4),(95,bv t_95_m9)] []) ?_ ?_
       ·refine xq (oMv j j)<|xq (oUn j j j)<|xq (oMv j j)<|?_
        refine ic hm27 (fun hc25 hm27=>?_) fun hc25 hm27=>?_
        ·obtain ⟨x93,hx93,hm27⟩:=bs hm27
         cases hm27
         exact xqT j j (nF (iR.2 hc25)) (oMv j j)<|xqT j j (nF (iR.2 hc25)) (oCa (xs:=[.v false [.own 4 0 0]]) (vs:=[(false,[.im 0 _])]) (v:=.v false [.im 0 _]) (L_spec_l03Ok hx93) (.inl j) j kF174_23 j (ppC j pp0) j j pb0 j j j)<|xqT j j (nF (iR.2 hc25)) (oUn j j j)<|xq (oPkF j j (nF (iR.2 hc25)) j)<|xn
        ·cases hm27
         exact xsgF j j (nT (byF iR hc25)) j<|xsgF j j (nT (byF iR hc25)) j<|xsgF j j (nT (byF iR hc25)) j<|xq (oPkT j j (nT (byF iR hc25)) j)<|xn
       ·refine us<|gc h j iR (fun hc26 h=>?_) fun hc26 h=>?_
        ·refine gs<|g0 j j (q (oAsI j j)<|nl)<|us<|Go.ret (Unw.ret ?_)
         cases h
         exact ⟨j,(fo rF84 j)⟩
        ·refine Go.skip<|Unw.blk<|us<|g0 j j (q (oMv j j)<|q (oBi j j j j)<|q (oAsI j j)<|nl)<|Unw.nil<|?_
         cases h
         exact ⟨j,(by kernel_rfl)⟩
    ·refine Go.exit<|ux<|Unw.nil<|?_
     cases h
     exact ⟨j,(by kernel_rfl)⟩
   ·rintro ⟨e,st⟩ hp
    rcases o with u | r2
    ·dsimp only at h
     obtain ⟨he,hst⟩:=hp
     obtain rfl:e= .exit 0:=he
     refine Unw.blkx<|us<|gs<|g2 c84 j j hst (q (oAsI j j)<|nl)<|us<|Go.ret (Unw.ret ?_)
     cases h
     exact fr rF84 j
    ·dsimp only at h
     obtain ⟨he,hfin⟩:=hp
     obtain rfl:e= .ret:=he
     cases h
     exact Unw.ret (Fin_ret hfin)
theorem L_spec_l05HasEdge {ring_0:(List Int)} {i_1:Int} {k_2:Int} {r:Bool} (h:spec_l05HasEdge ring_0 i_1 k_2=some r):FX 325 [.im 2 false [W 1 eI ring_0],.im 2 false [I i_1],.im 2 false [I k_2]] (B0 [(false,[.im 0 (V r)])]):=by
 unfold spec_l05HasEdge at h
 refine gn 46 Try.func325 rfl ?_
 refine gs<|g0 j j (q (oAsI j j)<|nl)<|us<|gs<|gs<|g0 j j (q (oAsI j j)<|nl)<|us<|Go.block<|?_
 obtain ⟨o,hl,h⟩:=bs h
 refine gl c325 j _ (fun (j_7_l2:Int)=>mk [(0,D 2 (W 1 eI ring_0)),(1,iv i_1),(2,iv k_2),(7,iv j_7_l2)] []) (fun (o:(Unit ⊕ Bool)) (p:Ex×St)=>match o with | (.inl _)=>p.1= .exit 0∧p.2.norm ([],[])=mk [] [] | (.inr r2)=>p.1= .ret∧fin Try.prog cfg 325 Try.f325 [.im 2 false [W 1 eI ring_0],.im 2 false [I i_1],.im 2 false [I k_2]] p.2=some (B0 [(false,[.im 0 (V r2)])])) hl (by kernel_rfl) ?_ ?_ ?_
 ·intro o p hp e
  rcases o with u | r2<;>exact nomatch (hp.1.symm.trans e)
 ·rintro j_7_l2 o h
  unfold spec_l05HasEdge_l2 at h
  refine gs<|gs<|g0 j j (q (oMv j j)<|q (oMv j j)<|q (oLnI j j uF28 j)<|q (oBi j j j j)<|nl)<|us<|gc h j iDec (fun hc15 h=>?_) fun hc15 h=>?_
  ·refine Go.skip<|us<|gs<|Go.block<|gs<|?_
   obtain ⟨x18,hx18,h⟩:=bs h
   refine g0 j j (q (oMv j j)<|q (oMv j j)<|q (oIAI j hx18 sF28 j j)<|q (oLd (cs:=[.im 2 _]) j tF2 j j)<|q (oAsI j j)<|nl)<|us<|gs<|?_
   obtain ⟨x25,hx25,h⟩:=bs h
   obtain ⟨x26,hx26,h⟩:=bs h
   refine g0 j j (q (oMv j j)<|q (oMv j j)<|q (oBi j j j j)<|q (oMv j j)<|q (oLnI j j uF28 j)<|q (oRem j hx25 j j)<|q (oIAI j hx26 sF28 j j)<|q (oLd (cs:=[.im 2 _]) j tF2 j j)<|q (oAsI j j)<|nl)<|us<|gs<|?_
   obtain ⟨t_45_m6,hm21,h⟩:=bs h
   refine gX c325 j j j (mk [(0,D 2 (W 1 eI ring_0)),(1,iv i_1),(2,iv k_2),(7,iv j_7_l2),(45,bv t_45_m6)] []) ?_ ?_
   ·refine xq (oMv j j)<|xq (oMv j j)<|xq (oBi j j j j)<|xq (oMv j j)<|?_
    refine ic hm21 (fun hc16 hm21=>?_) fun hc16 hm21=>?_
    ·refine xqT j j (iEq.2 hc16) (oMv j j)<|xqT j j (iEq.2 hc16) (oMv j j)<|xqT j j (iEq.2 hc16) (oBi j j j j)<|xq (oPkT j j (iEq.2 hc16) j)<|xq (oMv j j)<|?_
     refine ic hm21 (fun hc17 hm21=>?_) fun hc17 hm21=>?_
     ·cases hm21
      exact xsgF j j (iEq.2 hc17) j<|xsgF j j (iEq.2 hc17) j<|xsgF j j (iEq.2 hc17) j<|xsgF j j (iEq.2 hc17) j<|xsgU j j j<|xsgU j j j<|xsgU j j j<|xsgF j j (iEq.2 hc17) j<|xq (oPkT j j (iEq.2 hc17) j)<|xn
     ·refine xqT j j (byF iEq hc17) (oMv j j)<|xqT j j (byF iEq hc17) (oMv j j)<|xqT j j (byF iEq hc17) (oBi j j j j)<|xqT j j (byF iEq hc17) (oMv j j)<|?_
      refine ic hm21 (fun hc18 hm21=>?_) fun hc18 hm21=>?_
      ·cases hm21
       exact xqT j j (iEq.2 hc18) (oMv j j)<|xqT j j (iEq.2 hc18) (oMv j j)<|xqT j j (iEq.2 hc18) (oBi j j j j)<|xqT j j (byF iEq hc17) (oPkT j j (iEq.2 hc18) j)<|xq (oPkF j j (byF iEq hc17) j)<|xn
      ·cases hm21
       exact xsgF j j (byF iEq hc18) j<|xsgF j j (byF iEq hc18) j<|xsgF j j (byF iEq hc18) j<|xqT j j (byF iEq hc17) (oPkF j j (byF iEq hc18) j)<|xq (oPkF j j (byF iEq hc17) j)<|xn
    ·refine xsgF j j (byF iEq hc16) j<|xsgF j j (byF iEq hc16) j<|xsgF j j (byF iEq hc16) j<|xq (oPkF j j (byF iEq hc16) j)<|xq (oMv j j)<|xqT j j j (oMv j j)<|xqT j j j (oMv j j)<|xqT j j j (oBi j j j j)<|xqT j j j (oMv j j)<|?_
     refine ic hm21 (fun hc19 hm21=>?_) fun hc19 hm21=>?_
     ·cases hm21
      exact xqT j j (iEq.2 hc19) (oMv j j)<|xqT j j (iEq.2 hc19) (oMv j j)<|xqT j j (iEq.2 hc19) (oBi j j j j)<|xqT j j j (oPkT j j (iEq.2 hc19) j)<|xq (oPkF j j j j)<|xn
     ·cases hm21
      exact xsgF j j (byF iEq hc19) j<|xsgF j j (byF iEq hc19) j<|xsgF j j (byF iEq hc19) j<|xqT j j j (oPkF j j (byF iEq hc19) j)<|xq (oPkF j j j j)<|xn
   ·refine us<|gc h j iR (fun hc20 h=>?_) fun hc20 h=>?_
    ·refine gs<|g0 j j (q (oAsI j j)<|nl)<|us<|Go.ret (Unw.ret ?_)
     cases h
     exact ⟨j,(fo rF325 j)⟩
    ·refine Go.skip<|Unw.blk<|us<|g0 j j (q (oMv j j)<|q (oBi j j j j)<|q (oAsI j j)<|nl)<|Unw.nil<|?_
     cases h
     exact ⟨j,(by kernel_rfl)⟩
  ·refine Go.exit<|ux<|Unw.nil<|?_
   cases h
   exact ⟨j,(by kernel_rfl)⟩
 ·rintro ⟨e,st⟩ hp
  rcases o with u | r2
  ·dsimp only at h
   obtain ⟨he,hst⟩:=hp
   obtain rfl:e= .exit 0:=he
   refine Unw.blkx<|us<|gs<|g2 c325 j j hst (q (oAsI j j)<|nl)<|us<|Go.ret (Unw.ret ?_)
   cases h
   exact fr rF325 j
  ·dsimp only at h
   obtain ⟨he,hfin⟩:=hp
   obtain rfl:e= .ret:=he
   cases h
   exact Unw.ret (Fin_ret hfin)
theorem L_spec_l05Near {d_0:S_Drawing} {k_1:Int} {r:(List Int)} (h:spec_l05Near d_0 k_1=some r):FX 287 [.im 2 false [.cp (u_S_Drawing d_0) 0],.im 2 false [I k_1]] (B0 [(false,[.ow 0 1 (List.map eI r)])]):=by
 unfold spec_l05Near at h
 refine gn 69 Try.func287 rfl ?_
 refine gs<|g0 j j (q (oAsN j j eF28)<|nl)<|us<|gs<|g0 j j (q (oBS (es:=List.map eI ([]:List Int)) j sF28 j pt0 (flat0 j fun _=>j))<|q (oAsO j j j j j)<|nl)<|us<|gs<|?_
 obtain ⟨x16,hx16,h⟩:=bs h
 refine g0 j j (q (oMv j j)<|q (oNl j j j)<|q (oFA (r':=.im 2 _) j fF26_3 j j)<|q (oLd (cs:=[.im 2 _]) j tF24 j j)<|q (oMv j j)<|q (oIAI j hx16 sF24 j j)<|q (oFA (r':=.im 2 _) j fF257_1 j j)<|q (oLd (cs:=[.im 2 _]) j tF28 j j)<|q (oAsI j j)<|nl)<|us<|gs<|gs<|g0 j j (q (oAsI j j)<|nl)<|us<|Go.block<|?_
 obtain ⟨o,hl,h⟩:=bs h
 refine gl c287 j _ (fun (s:(Int×(List Int)))=>match s with | (f_7_l4,out_o5_l4)=>mk [(0,D 2 (.cp (u_S_Drawing d_0) 0)),(1,iv k_1),(5,H 5 0),(6,D 2 (W 1 eI x16.Ring)),(7,iv f_7_l4)] [(5,Oc [Z (W 1 eI out_o5_l4)])]) (fun (out_o5_e0_4:(List Int)) (p:Ex×St)=>p.1= .exit 0∧p.2.norm ([5],[5])=mk [(5,H 5 0)] [(5,Oc [Z (W 1 eI out_o5_e0_4)])]) hl (by kernel_rfl) ?_ ?_ ?_
 ·intro o p hp e
  exact nomatch (hp.1.symm.trans e)
 ·rintro ⟨f_7_l4,out_o5_l4⟩ o h
  unfold spec_l05Near_l4 at h
  dsimp only at h
  refine gs<|gs<|g0 j j (q (oMv j j)<|q (oMv j j)<|q (oNl j j j)<|q (oFA (r':=.im 2 _) j fF26_3 j j)<|q (oLd (cs:=[.im 2 _]) j tF24 j j)<|q (oLnI j j uF24 j)<|q (oBi j j j j)<|nl)<|us<|gc h j iDec (fun hc15 h=>?_) fun hc15 h=>?_
  ·refine Go.skip<|us<|gs<|Go.join (fun st=>∃out_o5_r5,spec_l05Near_k5 f_7_l4 out_o5_r5=some o∧st.norm ([0,1,5,6,7],[5])=mk [(0,D 2 (.cp (u_S_Drawing d_0) 0)),(1,iv k_1),(5,H 5 0),(6,D 2 (W 1 eI x16.Ring)),(7,iv f_7_l4)] [(5,Oc [Z (W 1 eI out_o5_r5)])]) ?_ ?_
   ·rintro st ⟨out_o5_r5,h,hst⟩
    unfold spec_l05Near_k5 at h
    refine us<|g2 c287 j j hst (q (oMv j j)<|q (oBi j j j j)<|q (oAsI j j)<|nl)<|Unw.nil<|?_
    cases h
    exact ⟨j,(by kernel_rfl)⟩
   ·intro K22
    refine Go.block<|gs<|g0 j j (q (oAsI j j)<|nl)<|us<|gs<|gs<|g0 j j (q (oAsI j j)<|nl)<|us<|Go.block<|?_
    obtain ⟨o,hl,h⟩:=bs h
    refine gl c287 j _ (fun (s:(Bool×Int))=>match s with | (found_8_l8,j_9_l8)=>mk [(0,D 2 (.cp (u_S_Drawing d_0) 0)),(1,iv k_1),(5,H 5 0),(6,D 2 (W 1 eI x16.Ring)),(7,iv f_7_l4),(8,bv found_8_l8),(9,iv j_9_l8)] [(5,Oc [Z (W 1 eI out_o5_l4)])]) (fun (found_8_e2_8:Bool) (p:Ex×St)=>p.1= .exit 2∧p.2.norm ([0,1,5,6,7,8],[5])=mk [(0,D 2 (.cp (u_S_Drawing d_0) 0)),(1,iv k_1),(5,H 5 0),(6,D 2 (W 1 eI x16.Ring)),(7,iv f_7_l4),(8,bv found_8_e2_8)] [(5,Oc [Z (W 1 eI out_o5_l4)])]) hl (by kernel_rfl) ?_ ?_ ?_
    ·intro o p hp e
     exact nomatch (hp.1.symm.trans e)
    ·rintro ⟨found_8_l8,j_9_l8⟩ o h
     unfold spec_l05Near_l8 at h
     dsimp only at h
     refine gs<|gs<|g0 j j (q (oMv j j)<|q (oMv j j)<|q (oLnI j j uF28 j)<|q (oBi j j j j)<|nl)<|us<|gc h j iDec (fun hc29 h=>?_) fun hc29 h=>?_
     ·refine Go.skip<|us<|gs<|Go.block<|?_
      obtain ⟨found_8_m10,hm31,h⟩:=bs h
      refine gd c287 j j j j (mk [(0,D 2 (.cp (u_S_Drawing d_0) 0)),(1,iv k_1),(5,H 5 0),(6,D 2 (W 1 eI x16.Ring)),(7,iv f_7_l4),(8,bv found_8_m10),(9,iv j_9_l8)] [(5,Oc [Z (W 1 eI out_o5_l4)])]) ?_ ?_
      ·refine t j j (oMv j j)<|t j j (oMv j j)<|?_
       refine ic hm31 (fun hc30 hm31=>?_) fun hc30 hm31=>?_
       ·cases hm31
        exact tF j j j j (iR.2 hc30) j<|tF j j j j (iR.2 hc30) j<|tF j j j j (iR.2 hc30) j<|tF j j j j (iR.2 hc30) j<|tF j j j j (iR.2 hc30) j<|tF j j j j (iR.2 hc30) j<|tF j j j j (iR.2 hc30) j<|tF j j j j (iR.2 hc30) j<|tF j j j j (iR.2 hc30) j<|tF j j j j (iR.2 hc30) j<|tF j j j j (iR.2 hc30) j<|tF j j j j (iR.2 hc30) j<|tF j j j j (iR.2 hc30) j<|tF j j j j (iR.2 hc30) j<|tF j j j j (iR.2 hc30) j<|tF j j j j (iR.2 hc30) j<|tF j j j j (iR.2 hc30) j<|tF j j j j (iR.2 hc30) j<|tF j j j j (iR.2 hc30) j<|tF j j j j (iR.2 hc30) j<|sS (dF j j j (iR.2 hc30) j) trivial (t j j (oPkT j j (iR.2 hc30) j)<|sS (dN z287 j (oAsI j j)) trivial (sD (by kernel_rfl)))
       ·obtain ⟨x41,hx41,hm31⟩:=bs hm31
        obtain ⟨x46,hx46,hm31⟩:=bs hm31
        obtain ⟨x53,hx53,hm31⟩:=bs hm31
        obtain ⟨x54,hx54,hm31⟩:=bs hm31
        obtain ⟨x56,hx56,hm31⟩:=bs hm31
        cases hm31
        exact tT j j j j (byF iR hc30) (oMv j j)<|tT j j j j (byF iR hc30) (oNl j j j)<|tT j j j j (byF iR hc30) (oFA (r':=.im 2 _) j fF26_3 j j)<|tT j j j j (byF iR hc30) (oLd (cs:=[.im 2 _]) j tF24 j j)<|tT j j j j (byF iR hc30) (oMv j j)<|tT j j j j (byF iR hc30) (oIAI j hx41 sF24 j j)<|tT j j j j (byF iR hc30) (oFA (r':=.im 2 _) j fF257_1 j j)<|tT j j j j (byF iR hc30) (oLd (cs:=[.im 2 _]) j tF28 j j)<|tT j j j j (byF iR hc30) (oMv j j)<|tT j j j j (byF iR hc30) (oMv j j)<|tT j j j j (byF iR hc30) (oIAI j hx46 sF28 j j)<|tT j j j j (byF iR hc30) (oLd (cs:=[.im 2 _]) j tF2 j j)<|tT j j j j (byF iR hc30) (oMv j j)<|tT j j j j (byF iR hc30) (oMv j j)<|tT j j j j (byF iR hc30) (oBi j j j j)<|tT j j j j (byF iR hc30) (oMv j j)<|tT j j j j (byF iR hc30) (oLnI j j uF28 j)<|tT j j j j (byF iR hc30) (oRem j hx53 j j)<|tT j j j j (byF iR hc30) (oIAI j hx54 sF28 j j)<|tT j j j j (byF iR hc30) (oLd (cs:=[.im 2 _]) j tF2 j j)<|sS (dT z287 j j j (byF iR hc30) (oCa (xs:=[.v false [.im 2 _],.v false [.im 2 _],.v false [.im 2 _]]) (vs:=[(false,[.im 0 _])]) (v:=.v false [.im 0 _]) (L_spec_l05HasEdge hx56) (.inl j) j kF325_28_2_2 j (ppC j (ppC j (ppC j pp0))) j j pb0 j j j)) trivial (t j j (oPkF j j (byF iR hc30) j)<|sS (dN z287 j (oAsI j j)) trivial (sD (by kernel_rfl)))
      ·refine Unw.blk<|us<|g0 j j (q (oMv j j)<|q (oBi j j j j)<|q (oAsI j j)<|nl)<|Unw.nil<|?_
       cases h
       exact ⟨j,(by kernel_rfl)⟩
     ·refine Go.exit<|ux<|Unw.nil<|?_
      cases h
      exact ⟨j,(by kernel_rfl)⟩
    ·rintro ⟨e,st⟩ hp
     obtain ⟨found_8_e2_8,rfl⟩:∃y,y=o:=⟨o,rfl⟩
     obtain ⟨he,hst⟩:=hp
     obtain rfl:e= .exit 2:=he
     refine Unw.blkx<|us<|gs<|gX c287 j j hst (mk [(0,D 2 (.cp (u_S_Drawing d_0) 0)),(1,iv k_1),(5,H 5 0),(6,D 2 (W 1 eI x16.Ring)),(7,iv f_7_l4),(63,bv ((f_7_l4 != k_1)&&found_8_e2_8))] [(5,Oc [Z (W 1 eI out_o5_l4)])]) ?_ ?_
     ·refine xq (oMv j j)<|xq (oMv j j)<|xq (oBi j j j j)<|xq (oMv j j)<|?_
      by_cases hc27:f_7_l4≠k_1
      ·exact xqT rfl rfl (iNe.2 hc27) (oMv rfl rfl)<|xq (oPkT rfl rfl (iNe.2 hc27) rfl)<|xn (Eq.trans (b:=(fun t_63_m11:Bool=>mk [(0,D 2 (.cp (u_S_Drawing d_0) 0)),(1,iv k_1),(5,H 5 0),(6,D 2 (W 1 eI x16.Ring)),(7,iv f_7_l4),(63,bv t_63_m11)] [(5,Oc [Z (W 1 eI out_o5_l4)])]) found_8_e2_8) (by kernel_rfl) (congrArg (fun t_63_m11:Bool=>mk [(0,D 2 (.cp (u_S_Drawing d_0) 0)),(1,iv k_1),(5,H 5 0),(6,D 2 (W 1 eI x16.Ring)),(7,iv f_7_l4),(63,bv t_63_m11)] [(5,Oc [Z (W 1 eI out_o5_l4)])]) (by first | rfl | (simp [(iNe.2 hc27)];done) | (simp [(iNe.2 hc27)];omega))))
      ·exact xsgF rfl rfl (byF iNe hc27) rfl<|xq (oPkF rfl rfl (byF iNe hc27) rfl)<|xn (Eq.trans (b:=(fun t_63_m11:Bool=>mk [(0,D 2 (.cp (u_S_Drawing d_0) 0)),(1,iv k_1),(5,H 5 0),(6,D 2 (W 1 eI x16.Ring)),(7,iv f_7_l4),(63,bv t_63_m11)] [(5,Oc [Z (W 1 eI out_o5_l4)])]) false) (by kernel_rfl) (congrArg (fun t_63_m11:Bool=>mk [(0,D 2 (.cp (u_S_Drawing d_0) 0)),(1,iv k_1),(5,H 5 0),(6,D 2 (W 1 eI x16.Ring)),(7,iv f_7_l4),(63,bv t_63_m11)] [(5,Oc [Z (W 1 eI out_o5_l4)])]) (by first | rfl | (simp [(byF iNe hc27)];done) | (simp [(byF iNe hc27)];omega))))
     ·refine us<|gc h j (iAnd iNe iR) (fun hc28 h=>?_) fun hc28 h=>?_
      ·obtain ⟨x67,hx67,h⟩:=bs h
       exact g0 j j (q (oMv j j)<|q (oMv j j)<|q (oBS (es:=List.map eI ([f_7_l4]:List Int)) j sF28 j (ptC j (fxI fx0) j pt0) (flat0 j fun _=>j))<|q (oApO (en:=eI) (M:=([f_7_l4]:List Int)) j hx67 j sF28 j j uF28 (.inl ⟨_,j⟩) j j j j (el_own j j) (flat0 j fun _=>j))<|q (oAsO j j j j j)<|nl)<|Unw.blk<|K22 _ ⟨x67,h,(by kernel_rfl)⟩
      ·exact Go.skip<|Unw.blk<|K22 _ ⟨out_o5_l4,h,(by kernel_rfl)⟩
  ·refine Go.exit<|ux<|Unw.nil<|?_
   cases h
   exact ⟨j,(by kernel_rfl)⟩
 ·rintro ⟨e,st⟩ hp
  obtain ⟨out_o5_e0_4,rfl⟩:∃y,y=o:=⟨o,rfl⟩
  obtain ⟨he,hst⟩:=hp
  obtain rfl:e= .exit 0:=he
  refine Unw.blkx<|us<|gs<|g2 c287 j j hst (q (oMv j j)<|q (oAsO j j j j j)<|nl)<|us<|Go.ret (Unw.ret ?_)
  cases h
  exact fr rF287 j
theorem L_spec_l05Polygon {d_0:S_Drawing} {k_1:Int} {r:(List S_Point)} (h:spec_l05Polygon d_0 k_1=some r):FX 326 [.im 2 false [.cp (u_S_Drawing d_0) 0],.im 2 false [I k_1]] (B0 [(false,[.ow 0 2 (List.map e_S_Point r)])]):=by
 unfold spec_l05Polygon at h
 refine gn 21 Try.func326 rfl ?_
 refine gs<|g0 j j (q (oAsN j j eF23)<|nl)<|us<|gs<|?_
 obtain ⟨x14,hx14,h⟩:=bs h
 obtain ⟨x17,hx17,h⟩:=bs h
 refine g0 j j (q (oMv j j)<|q (oMv j j)<|q (oNl j j j)<|q (oFA (r':=.im 2 _) j fF26_3 j j)<|q (oLd (cs:=[.im 2 _]) j tF24 j j)<|q (oMv j j)<|q (oIAI j hx14 sF24 j j)<|q (oFA (r':=.im 2 _) j fF257_1 j j)<|q (oLd (cs:=[.im 2 _]) j tF28 j j)<|q (oCr (xs:=[.v false [.im 2 _],.v false [.im 2 _]]) (vs:=[(false,[.own 17 0 0]),(false,[.im 0 _])]) (v:=.tup [(false,[.own 17 0 0]),(false,[.im 0 _])]) (c:=⟨.sh,0,_⟩) (cs:=[]) (L_spec_l05Ring hx17) (.inl j) j kF173_141_28 j (ppC j (ppC j pp0)) j j pb0 j j j)<|q (oMvT j j)<|q (oEx j j j)<|q (oEx j j j)<|q (oAsO j j j j j)<|q (oAsI j j)<|nl)<|us<|gs<|g0 j j (q (oMv j j)<|q (oAsO j j j j j)<|nl)<|us<|Go.ret (Unw.ret ?_)
 cases h
 exact fr rF326 j
theorem L_spec_l23Edge {d_0:S_Drawing} {a_1:S_Point} {b_2:S_Point} {r:Bool} (h:spec_l23Edge d_0 a_1 b_2=some r):FX 327 [.im 2 false [.cp (u_S_Drawing d_0) 0],.im 2 true (u_S_Point a_1),.im 2 true (u_S_Point b_2)] (B0 [(false,[.im 0 (V r)])]):=by
 unfold spec_l23Edge at h
 refine gn 47 Try.func327 rfl ?_
 refine gs<|g0 j j (q (oBx j tF264 j (tkI (tkI tk0)))<|q (oBx j tF264 j (tkI (tkI tk0)))<|q (oAsI j j)<|nl)<|us<|gs<|?_
 obtain ⟨t_6_m1,hm8,h⟩:=bs h
 refine gd c327 j j j j (mk [(6,bv t_6_m1)] []) ?_ ?_
 ·refine t j j (oFA (r':=.mp 4 0 0) j fF264_0 j j)<|t j j (oLd (cs:=[.im 0 _]) j tF2 j j)<|t j j (oFA (r':=.mp 5 0 0) j fF264_0 j j)<|t j j (oLd (cs:=[.im 0 _]) j tF2 j j)<|t j j (oBi j j j j)<|t j j (oMv j j)<|?_
  refine ic hm8 (fun hc1 hm8=>?_) fun hc1 hm8=>?_
  ·refine tT j j j j (iEq.2 hc1) (oFA (r':=.mp 4 0 0) j fF264_0 j j)<|tT j j j j (iEq.2 hc1) (oLd (cs:=[.im 0 _]) j tF2 j j)<|tT j j j j (iEq.2 hc1) (oBi j j j j)<|tT j j j j (iEq.2 hc1) (oMv j j)<|?_
   refine ic hm8 (fun hc2 hm8=>?_) fun hc2 hm8=>?_
   ·cases hm8
    exact tF j j j j (iEq.2 hc2) j<|tF j j j j (iEq.2 hc2) j<|tF j j j j (iEq.2 hc2) j<|tF j j j j (iEq.2 hc2) j<|tF j j j j (iEq.2 hc2) j<|tF j j j j (iEq.2 hc2) j<|tF j j j j (iEq.2 hc2) j<|tT j j j j (iEq.2 hc1) (oPkT j j (iEq.2 hc2) j)<|t j j (oPkT j j (iEq.2 hc1) j)<|t j j (oMv j j)<|tF j j j j j j<|tF j j j j j j<|tF j j j j j j<|tF j j j j j j<|tF j j j j j j<|tF j j j j j j<|sT j (dU j j j j)<|sT j (dU j j j j)<|sT j (dU j j j j)<|sT j (dU j j j j)<|sT j (dU j j j j)<|sT j (dU j j j j)<|sT j (dU j j j j)<|sT j (dU j j j j)<|sT j (dU j j j j)<|sT j (dU j j j j)<|sT j (dU j j j j)<|sT j (dU j j j j)<|tF j j j j j j<|t j j (oPkT j j j j)<|sS (dN z327 j (oAsI j j)) trivial (sD (by kernel_rfl))
   ·refine tT j j j j (byF iEq hc2) (oFA (r':=.mp 4 0 0) j fF264_0 j j)<|tT j j j j (byF iEq hc2) (oLd (cs:=[.im 0 _]) j tF2 j j)<|tT j j j j (byF iEq hc2) (oMv j j)<|tT j j j j (byF iEq hc2) (oNl j j j)<|tT j j j j (byF iEq hc2) (oFA (r':=.im 2 _) j fF26_0 j j)<|tT j j j j (byF iEq hc2) (oLd (cs:=[.im 2 _]) j tF2 j j)<|tT j j j j (byF iEq hc2) (oBi j j j j)<|tT j j j j (iEq.2 hc1) (oPkF j j (byF iEq hc2) j)<|t j j (oPkT j j (iEq.2 hc1) j)<|t j j (oMv j j)<|?_
    refine ic hm8 (fun hc3 hm8=>?_) fun hc3 hm8=>?_
    ·cases hm8
     exact tF j j j j (iEq.2 hc3) j<|tF j j j j (iEq.2 hc3) j<|tF j j j j (iEq.2 hc3) j<|tF j j j j (iEq.2 hc3) j<|tF j j j j (iEq.2 hc3) j<|tF j j j j (iEq.2 hc3) j<|sT j (dU j j j j)<|sT j (dU j j j j)<|sT j (dU j j j j)<|sT j (dU j j j j)<|sT j (dU j j j j)<|sT j (dU j j j j)<|sT j (dU j j j j)<|sT j (dU j j j j)<|sT j (dU j j j j)<|sT j (dU j j j j)<|sT j (dU j j j j)<|sT j (dU j j j j)<|tF j j j j (iEq.2 hc3) j<|t j j (oPkT j j (iEq.2 hc3) j)<|sS (dN z327 j (oAsI j j)) trivial (sD (by kernel_rfl))
    ·refine tT j j j j (byF iEq hc3) (oFA (r':=.mp 4 0 1) j fF264_1 j j)<|tT j j j j (byF iEq hc3) (oLd (cs:=[.im 0 _]) j tF2 j j)<|tT j j j j (byF iEq hc3) (oFA (r':=.mp 5 0 1) j fF264_1 j j)<|tT j j j j (byF iEq hc3) (oLd (cs:=[.im 0 _]) j tF2 j j)<|tT j j j j (byF iEq hc3) (oBi j j j j)<|tT j j j j (byF iEq hc3) (oMv j j)<|?_
     refine ic hm8 (fun hc4 hm8=>?_) fun hc4 hm8=>?_
     ·refine tT j j j j (iEq.2 hc4) (oFA (r':=.mp 4 0 1) j fF264_1 j j)<|tT j j j j (iEq.2 hc4) (oLd (cs:=[.im 0 _]) j tF2 j j)<|tT j j j j (iEq.2 hc4) (oBi j j j j)<|tT j j j j (iEq.2 hc4) (oMv j j)<|?_
      refine ic hm8 (fun hc5 hm8=>?_) fun hc5 hm8=>?_
      ·cases hm8
       exact tF j j j j (iEq.2 hc5) j<|tF j j j j (iEq.2 hc5) j<|tF j j j j (iEq.2 hc5) j<|tF j j j j (iEq.2 hc5) j<|tF j j j j (iEq.2 hc5) j<|tF j j j j (iEq.2 hc5) j<|tF j j j j (iEq.2 hc5) j<|tT j j j j (iEq.2 hc4) (oPkT j j (iEq.2 hc5) j)<|tT j j j j (byF iEq hc3) (oPkT j j (iEq.2 hc4) j)<|t j j (oPkF j j (byF iEq hc3) j)<|sS (dN z327 j (oAsI j j)) trivial (sD (by kernel_rfl))
      ·cases hm8
       exact tT j j j j (byF iEq hc5) (oFA (r':=.mp 4 0 1) j fF264_1 j j)<|tT j j j j (byF iEq hc5) (oLd (cs:=[.im 0 _]) j tF2 j j)<|tT j j j j (byF iEq hc5) (oMv j j)<|tT j j j j (byF iEq hc5) (oNl j j j)<|tT j j j j (byF iEq hc5) (oFA (r':=.im 2 _) j fF26_1 j j)<|tT j j j j (byF iEq hc5) (oLd (cs:=[.im 2 _]) j tF2 j j)<|tT j j j j (byF iEq hc5) (oBi j j j j)<|tT j j j j (iEq.2 hc4) (oPkF j j (byF iEq hc5) j)<|tT j j j j (byF iEq hc3) (oPkT j j (iEq.2 hc4) j)<|t j j (oPkF j j (byF iEq hc3) j)<|sS (dN z327 j (oAsI j j)) trivial (sD (by kernel_rfl))
     ·cases hm8
      exact tF j j j j (byF iEq hc4) j<|tF j j j j (byF iEq hc4) j<|tF j j j j (byF iEq hc4) j<|tF j j j j (byF iEq hc4) j<|sT j (dU j j j j)<|sT j (dU j j j j)<|sT j (dU j j j j)<|sT j (dU j j j j)<|sT j (dU j j j j)<|sT j (dU j j j j)<|sT j (dU j j j j)<|tF j j j j (byF iEq hc4) j<|tT j j j j (byF iEq hc3) (oPkF j j (byF iEq hc4) j)<|t j j (oPkF j j (byF iEq hc3) j)<|sS (dN z327 j (oAsI j j)) trivial (sD (by kernel_rfl))
  ·refine tF j j j j (byF iEq hc1) j<|tF j j j j (byF iEq hc1) j<|tF j j j j (byF iEq hc1) j<|tF j j j j (byF iEq hc1) j<|sT j (dU j j j j)<|sT j (dU j j j j)<|sT j (dU j j j j)<|sT j (dU j j j j)<|sT j (dU j j j j)<|sT j (dU j j j j)<|sT j (dU j j j j)<|tF j j j j (byF iEq hc1) j<|t j j (oPkF j j (byF iEq hc1) j)<|t j j (oMv j j)<|tT j j j j j (oFA (r':=.mp 4 0 1) j fF264_1 j j)<|tT j j j j j (oLd (cs:=[.im 0 _]) j tF2 j j)<|tT j j j j j (oFA (r':=.mp 5 0 1) j fF264_1 j j)<|tT j j j j j (oLd (cs:=[.im 0 _]) j tF2 j j)<|tT j j j j j (oBi j j j j)<|tT j j j j j (oMv j j)<|?_
   refine ic hm8 (fun hc6 hm8=>?_) fun hc6 hm8=>?_
   ·refine tT j j j j (iEq.2 hc6) (oFA (r':=.mp 4 0 1) j fF264_1 j j)<|tT j j j j (iEq.2 hc6) (oLd (cs:=[.im 0 _]) j tF2 j j)<|tT j j j j (iEq.2 hc6) (oBi j j j j)<|tT j j j j (iEq.2 hc6) (oMv j j)<|?_
    refine ic hm8 (fun hc7 hm8=>?_) fun hc7 hm8=>?_
    ·cases hm8
     exact tF j j j j (iEq.2 hc7) j<|tF j j j j (iEq.2 hc7) j<|tF j j j j (iEq.2 hc7) j<|tF j j j j (iEq.2 hc7) j<|tF j j j j (iEq.2 hc7) j<|tF j j j j (iEq.2 hc7) j<|tF j j j j (iEq.2 hc7) j<|tT j j j j (iEq.2 hc6) (oPkT j j (iEq.2 hc7) j)<|tT j j j j j (oPkT j j (iEq.2 hc6) j)<|t j j (oPkF j j j j)<|sS (dN z327 j (oAsI j j)) trivial (sD (by kernel_rfl))
    ·cases hm8
     exact tT j j j j (byF iEq hc7) (oFA (r':=.mp 4 0 1) j fF264_1 j j)<|tT j j j j (byF iEq hc7) (oLd (cs:=[.im 0 _]) j tF2 j j)<|tT j j j j (byF iEq hc7) (oMv j j)<|tT j j j j (byF iEq hc7) (oNl j j j)<|tT j j j j (byF iEq hc7) (oFA (r':=.im 2 _) j fF26_1 j j)<|tT j j j j (byF iEq hc7) (oLd (cs:=[.im 2 _]) j tF2 j j)<|tT j j j j (byF iEq hc7) (oBi j j j j)<|tT j j j j (iEq.2 hc6) (oPkF j j (byF iEq hc7) j)<|tT j j j j j (oPkT j j (iEq.2 hc6) j)<|t j j (oPkF j j j j)<|sS (dN z327 j (oAsI j j)) trivial (sD (by kernel_rfl))
   ·cases hm8
    exact tF j j j j (byF iEq hc6) j<|tF j j j j (byF iEq hc6) j<|tF j j j j (byF iEq hc6) j<|tF j j j j (byF iEq hc6) j<|sT j (dU j j j j)<|sT j (dU j j j j)<|sT j (dU j j j j)<|sT j (dU j j j j)<|sT j (dU j j j j)<|sT j (dU j j j j)<|sT j (dU j j j j)<|tF j j j j (byF iEq hc6) j<|tT j j j j j (oPkF j j (byF iEq hc6) j)<|t j j (oPkF j j j j)<|sS (dN z327 j (oAsI j j)) trivial (sD (by kernel_rfl))
 ·refine us<|Go.ret (Unw.ret ?_)
  cases h
  exact fr rF327 j
theorem L_spec_l23Border {d_0:S_Drawing} {k_1:Int} {r:Bool} (h:spec_l23Border d_0 k_1=some r):FX 288 [.im 2 false [.cp (u_S_Drawing d_0) 0],.im 2 false [I k_1]] (B0 [(false,[.im 0 (V r)])]):=by
 unfold spec_l23Border at h
 refine gn 30 Try.func288 rfl ?_
 refine gs<|g0 j j (q (oAsI j j)<|nl)<|us<|gs<|?_
 obtain ⟨x9,hx9,h⟩:=bs h
 refine g0 j j (q (oMv j j)<|q (oMv j j)<|q (oCr (xs:=[.v false [.im 2 _],.v false [.im 2 _]]) (vs:=[(false,[.own 9 0 0])]) (v:=.v false [.own 9 0 0]) (c:=⟨.sh,0,_⟩) (cs:=[]) (L_spec_l05Polygon hx9) (.inl j) j kF326_141_2 j (ppC j (ppC j pp0)) j j pb0 j j j)<|q (oAsO j j j j j)<|nl)<|us<|gs<|gs<|g0 j j (q (oAsI j j)<|nl)<|us<|Go.block<|?_
 obtain ⟨o,hl,h⟩:=bs h
 refine gl c288 j _ (fun (i_6_l3:Int)=>mk [(0,D 2 (.cp (u_S_Drawing d_0) 0)),(5,H 5 0),(6,iv i_6_l3)] [(5,Oc [Z (W 2 e_S_Point x9)])]) (fun (o:(Unit ⊕ Bool)) (p:Ex×St)=>match o with | (.inl _)=>p.1= .exit 0∧p.2.norm ([],[])=mk [] [] | (.inr r2)=>p.1= .ret∧fin Try.prog cfg 288 Try.f288 [.im 2 false [.cp (u_S_Drawing d_0) 0],.im 2 false [I k_1]] p.2=some (B0 [(false,[.im 0 (V r2)])])) hl (by kernel_rfl) ?_ ?_ ?_
 ·intro o p hp e
  rcases o with u | r2<;>exact nomatch (hp.1.symm.trans e)
 ·rintro i_6_l3 o h
  unfold spec_l23Border_l3 at h
  refine gs<|gs<|g0 j j (q (oMv j j)<|q (oMv j j)<|q (oLnO j j uF23 j j j (fun e=>nomatch e))<|q (oBi j j j j)<|nl)<|us<|gc h j iDec (fun hc5 h=>?_) fun hc5 h=>?_
  ·refine Go.skip<|us<|gs<|Go.block<|gs<|?_
   obtain ⟨x19,hx19,h⟩:=bs h
   obtain ⟨x26,hx26,h⟩:=bs h
   obtain ⟨x27,hx27,h⟩:=bs h
   obtain ⟨x29,hx29,h⟩:=bs h
   refine gd c288 j j j j (mk [(0,D 2 (.cp (u_S_Drawing d_0) 0)),(5,H 5 0),(6,iv i_6_l3),(29,bv x29)] [(5,Oc [Z (W 2 e_S_Point x9)])]) (t j j (oMv j j)<|t j j (oMv j j)<|t j j (oMv j j)<|t j j (oIAO j hx19 sF23 j j j j)<|t j j (oLdE (cs:=[.im 0 _,.im 0 _]) j tF264 j j j j (rd_get hx19) j j)<|t j j (oMv j j)<|t j j (oMv j j)<|t j j (oBi j j j j)<|t j j (oMv j j)<|t j j (oLnO j j uF23 j j j (fun e=>nomatch e))<|t j j (oRem j hx26 j j)<|t j j (oIAO j hx27 sF23 j j j j)<|t j j (oLdE (cs:=[.im 0 _,.im 0 _]) j tF264 j j j j (rd_get hx27) j j)<|sS (dN z288 j (oCa (xs:=[.v false [.im 2 _],.v true [.im 0 _,.im 0 _],.v true [.im 0 _,.im 0 _]]) (vs:=[(false,[.im 0 _])]) (v:=.v false [.im 0 _]) (L_spec_l23Edge hx29) (.inl j) j kF327_141_264_264 j (ppC j (ppC j (ppC j pp0))) j j pb0 j j j)) trivial (sD (by kernel_rfl)))<|us<|gc h j iR (fun hc6 h=>?_) fun hc6 h=>?_
   ·refine gs<|g0 j j (q (oAsI j j)<|nl)<|us<|Go.ret (Unw.ret ?_)
    cases h
    exact ⟨j,(fo rF288 j)⟩
   ·refine Go.skip<|Unw.blk<|us<|g0 j j (q (oMv j j)<|q (oBi j j j j)<|q (oAsI j j)<|nl)<|Unw.nil<|?_
    cases h
    exact ⟨j,(by kernel_rfl)⟩
  ·refine Go.exit<|ux<|Unw.nil<|?_
   cases h
   exact ⟨j,(by kernel_rfl)⟩
 ·rintro ⟨e,st⟩ hp
  rcases o with u | r2
  ·dsimp only at h
   obtain ⟨he,hst⟩:=hp
   obtain rfl:e= .exit 0:=he
   refine Unw.blkx<|us<|gs<|g2 c288 j j hst (q (oAsI j j)<|nl)<|us<|Go.ret (Unw.ret ?_)
   cases h
   exact fr rF288 j
  ·dsimp only at h
   obtain ⟨he,hfin⟩:=hp
   obtain rfl:e= .ret:=he
   cases h
   exact Unw.ret (Fin_ret hfin)
theorem L_spec_l23Of {d_0:S_Drawing} {r:S_l23Map} (h:spec_l23Of d_0=some r):FX 202 [.im 2 false [.cp (u_S_Drawing d_0) 0]] (B0 [(false,[.pt true [⟨.sh,0,W 1 (eL 1 eI) r.near⟩,⟨.sh,0,W 1 eB r.border⟩]])]):=by
 unfold spec_l23Of at h
 refine gn 41 Try.func202 rfl ?_
 refine gs<|g0 j j (q (oAsI j j)<|nl)<|us<|gs<|g0 j j (q (oBu (cs:=[.nil,.nil]) j bF354 j)<|q (oBx j tF354 j (tkN (tkN tk0)))<|q (oAsP j j)<|nl)<|us<|gs<|gs<|g0 j j (q (oAsI j j)<|nl)<|us<|Go.block<|?_
 obtain ⟨o,hl,h⟩:=bs h
 refine gl c202 j _ (fun (s:(Int×(List (List Int))×(List Bool)))=>match s with | (k_4_l3,o_o6_0_l3,o_o6_1_l3)=>mk [(0,D 2 (.cp (u_S_Drawing d_0) 0)),(3,M 6),(4,iv k_4_l3)] [(6,Oa [Z (W 1 (eL 1 eI) o_o6_0_l3),Z (W 1 eB o_o6_1_l3)])]) (fun (o:((List (List Int))×(List Bool))) (p:Ex×St)=>match o with | (o_o6_0_e0_3,o_o6_1_e0_3)=>p.1= .exit 0∧p.2.norm ([3],[6])=mk [(3,M 6)] [(6,Oa [Z (W 1 (eL 1 eI) o_o6_0_e0_3),Z (W 1 eB o_o6_1_e0_3)])]) hl (by kernel_rfl) ?_ ?_ ?_
 ·intro o p hp e
  obtain ⟨o_o6_0_e0_3,o_o6_1_e0_3⟩:=o
  exact nomatch (hp.1.symm.trans e)
 ·rintro ⟨k_4_l3,o_o6_0_l3,o_o6_1_l3⟩ o h
  unfold spec_l23Of_l3 at h
  dsimp only at h
  refine gs<|gs<|g0 j j (q (oMv j j)<|q (oMv j j)<|q (oNl j j j)<|q (oFA (r':=.im 2 _) j fF26_3 j j)<|q (oLd (cs:=[.im 2 _]) j tF24 j j)<|q (oLnI j j uF24 j)<|q (oBi j j j j)<|nl)<|us<|gc h j iDec (fun hc3 h=>?_) fun hc3 h=>?_
  ·refine Go.skip<|us<|gs<|Go.block<|gs<|?_
   obtain ⟨x23,hx23,h⟩:=bs h
   obtain ⟨x25,hx25,h⟩:=bs h
   refine gd c202 j j j j (mk [(0,D 2 (.cp (u_S_Drawing d_0) 0)),(3,M 6),(4,iv k_4_l3)] [(6,Oa [Z (W 1 (eL 1 eI) x25),Z (W 1 eB o_o6_1_l3)])]) (t j j (oMv j j)<|t j j (oMv j j)<|t j j (oMv j j)<|t j j (oMv j j)<|sK (O:=[6]) j j j (dN z202 j (oNl j j j))<|sK (O:=[6]) j j j (dN z202 j (oFA (r':=.mp 6 0 0) j fF354_0 j j))<|sK (O:=[6]) j j j (dN z202 j (oLd (cs:=[.own 6 0 0]) j tF41 j j))<|sS (dN z202 j (oCr (xs:=[.v false [.im 2 _],.v false [.im 0 _]]) (vs:=[(false,[.own 23 0 0])]) (v:=.v false [.own 23 0 0]) (c:=⟨.sh,0,_⟩) (cs:=[]) (L_spec_l05Near hx23) (.inl j) j kF287_141_2 j (ppC j (ppC j pp0)) j j pb0 j j j)) (kY ⟨j,trivial⟩ (kY ⟨j,trivial⟩ (kY ⟨j,trivial⟩ trivial))) (sS (dN z202 j (oBS (es:=List.map (eL 1 eI) ([x23]:List (List Int))) j sF41 j (ptC j (fxO j j fx0) j pt0) (flat1 j))) (kY ⟨j,trivial⟩ (kY ⟨j,trivial⟩ (kY ⟨j,trivial⟩ trivial))) (sS (dN z202 j (oApO (en:=(eL 1 eI)) (M:=([x23]:List (List Int))) j hx25 j sF41 j j uF41 (.inl ⟨_,j⟩) j j j j (el_own j j) (flat1 j))) (kN j (kN j (kN j trivial))) (t j j (oNl j j j)<|t j j (oFA (r':=.mp 6 0 0) j fF354_0 j j)<|sS (dN z202 j (oSt tF41 j j j (tkO j j tk0) j j j)) (kN j (kN j (kN j trivial))) (sD (by kernel_rfl))))))<|us<|?_
   obtain ⟨x35,hx35,h⟩:=bs h
   obtain ⟨x37,hx37,h⟩:=bs h
   refine gd c202 j j j j (mk [(0,D 2 (.cp (u_S_Drawing d_0) 0)),(3,M 6),(4,iv k_4_l3)] [(6,Oa [Z (W 1 (eL 1 eI) x25),Z (W 1 eB x37)])]) (t j j (oMv j j)<|t j j (oMv j j)<|t j j (oMv j j)<|t j j (oMv j j)<|sK (O:=[6]) j j j (dN z202 j (oNl j j j))<|sK (O:=[6]) j j j (dN z202 j (oFA (r':=.mp 6 0 1) j fF354_1 j j))<|sK (O:=[6]) j j j (dN z202 j (oLd (cs:=[.own 6 0 1]) j tF145 j j))<|sS (dN z202 j (oCa (xs:=[.v false [.im 2 _],.v false [.im 0 _]]) (vs:=[(false,[.im 0 _])]) (v:=.v false [.im 0 _]) (L_spec_l23Border hx35) (.inl j) j kF288_141_2 j (ppC j (ppC j pp0)) j j pb0 j j j)) (kY ⟨j,trivial⟩ (kY ⟨j,trivial⟩ (kY ⟨j,trivial⟩ trivial))) (sS (dN z202 j (oBS (es:=List.map eB ([x35]:List Bool)) j sF145 j (ptC j (fxI fx0) j pt0) (flat0 j fun _=>j))) (kY ⟨j,trivial⟩ (kY ⟨j,trivial⟩ (kY ⟨j,trivial⟩ trivial))) (sS (dN z202 j (oApO (en:=eB) (M:=([x35]:List Bool)) j hx37 j sF145 j j uF145 (.inl ⟨_,j⟩) j j j j (el_own j j) (flat0 j fun _=>j))) (kN j (kN j (kN j trivial))) (t j j (oNl j j j)<|t j j (oFA (r':=.mp 6 0 1) j fF354_1 j j)<|sS (dN z202 j (oSt tF145 j j j (tkO j j tk0) j j j)) (kN j (kN j (kN j trivial))) (sD (by kernel_rfl))))))<|Unw.blk<|us<|g0 j j (q (oMv j j)<|q (oBi j j j j)<|q (oAsI j j)<|nl)<|Unw.nil<|?_
   cases h
   exact ⟨j,(by kernel_rfl)⟩
  ·refine Go.exit<|ux<|Unw.nil<|?_
   cases h
   exact ⟨j,(by kernel_rfl)⟩
 ·rintro ⟨e,st⟩ hp
  obtain ⟨o_o6_0_e0_3,o_o6_1_e0_3⟩:=o
  dsimp only at h
  obtain ⟨he,hst⟩:=hp
  obtain rfl:e= .exit 0:=he
  refine Unw.blkx<|us<|gs<|g2 c202 j j hst (q (oMv j j)<|q (oAsP j j)<|nl)<|us<|Go.ret (Unw.ret ?_)
  cases h
  exact fr rF202 j
theorem L_spec_l00Own {list_0:(List Int)} {r:(List Int)} (h:spec_l00Own list_0=some r):FX 117 [.im 2 false [W 1 eI list_0]] (B0 [(false,[.ow 0 1 (List.map eI r)])]):=by
 unfold spec_l00Own at h
 refine gn 6 Try.func117 rfl ?_
 refine gs<|g0 j j (q (oAsN j j eF28)<|nl)<|us<|gs<|?_
 obtain ⟨x5,hx5,h⟩:=bs h
 refine g0 j j (q (oBS (es:=List.map eI ([]:List Int)) j sF28 j pt0 (flat0 j fun _=>j))<|q (oMv j j)<|q (oApO (en:=eI) (M:=list_0) j hx5 j sF28 j j uF28 (.inl ⟨_,j⟩) j j j j el_im (flat0 j fun _=>j))<|q (oAsO j j j j j)<|nl)<|us<|Go.ret (Unw.ret ?_)
 cases h
 exact fr rF117 j
theorem L_spec_l00Has {list_0:(List Int)} {n_1:Int} {r:Bool} (h:spec_l00Has list_0 n_1=some r):FX 219 [.im 2 false [W 1 eI list_0],.im 2 false [I n_1]] (B0 [(false,[.im 0 (V r)])]):=by
 unfold spec_l00Has at h
 refine gn 18 Try.func219 rfl ?_
 refine gs<|g0 j j (q (oAsI j j)<|nl)<|us<|gs<|gs<|g0 j j (q (oAsI j j)<|nl)<|us<|Go.block<|?_
 obtain ⟨o,hl,h⟩:=bs h
 refine gl c219 j _ (fun (i_5_l2:Int)=>mk [(0,D 2 (W 1 eI list_0)),(1,iv n_1),(5,iv i_5_l2)] []) (fun (o:(Unit ⊕ Bool)) (p:Ex×St)=>match o with | (.inl _)=>p.1= .exit 0∧p.2.norm ([],[])=mk [] [] | (.inr r2)=>p.1= .ret∧fin Try.prog cfg 219 Try.f219 [.im 2 false [W 1 eI list_0],.im 2 false [I n_1]] p.2=some (B0 [(false,[.im 0 (V r2)])])) hl (by kernel_rfl) ?_ ?_ ?_
 ·intro o p hp e
  rcases o with u | r2<;>exact nomatch (hp.1.symm.trans e)
 ·rintro i_5_l2 o h
  unfold spec_l00Has_l2 at h
  refine gs<|gs<|g0 j j (q (oMv j j)<|q (oMv j j)<|q (oLnI j j uF28 j)<|q (oBi j j j j)<|nl)<|us<|gc h j iDec (fun hc5 h=>?_) fun hc5 h=>?_
  ·refine Go.skip<|us<|gs<|Go.block<|gs<|?_
   obtain ⟨x14,hx14,h⟩:=bs h
   refine g0 j j (q (oMv j j)<|q (oMv j j)<|q (oIAI j hx14 sF28 j j)<|q (oLd (cs:=[.im 2 _]) j tF2 j j)<|q (oMv j j)<|q (oBi j j j j)<|nl)<|us<|gc h j iEq (fun hc6 h=>?_) fun hc6 h=>?_
   ·refine gs<|g0 j j (q (oAsI j j)<|nl)<|us<|Go.ret (Unw.ret ?_)
    cases h
    exact ⟨j,(fo rF219 j)⟩
   ·refine Go.skip<|Unw.blk<|us<|g0 j j (q (oMv j j)<|q (oBi j j j j)<|q (oAsI j j)<|nl)<|Unw.nil<|?_
    cases h
    exact ⟨j,(by kernel_rfl)⟩
  ·refine Go.exit<|ux<|Unw.nil<|?_
   cases h
   exact ⟨j,(by kernel_rfl)⟩
 ·rintro ⟨e,st⟩ hp
  rcases o with u | r2
  ·dsimp only at h
   obtain ⟨he,hst⟩:=hp
   obtain rfl:e= .exit 0:=he
   refine Unw.blkx<|us<|gs<|g2 c219 j j hst (q (oAsI j j)<|nl)<|us<|Go.ret (Unw.ret ?_)
   cases h
   exact fr rF219 j
  ·dsimp only at h
   obtain ⟨he,hfin⟩:=hp
   obtain rfl:e= .ret:=he
   cases h
   exact Unw.ret (Fin_ret hfin)
theorem L_spec_l23Held {m_0:S_l23Map} {placed_1:(List Int)} {k_2:Int} {r:Bool} (h:spec_l23Held m_0 placed_1 k_2=some r):FX 355 [.im 2 false [.cp (u_S_l23Map m_0) 0],.im 2 false [W 1 eI placed_1],.im 2 false [I k_2]] (B0 [(false,[.im 0 (V r)])]):=by
 unfold spec_l23Held at h
 refine gn 35 Try.func355 rfl ?_
 refine gs<|g0 j j (q (oAsI j j)<|nl)<|us<|gs<|gs<|g0 j j (q (oMv j j)<|q (oLnI j j uF28 j)<|q (oBi j j j j)<|nl)<|us<|gc h j iEq (fun hc1 h=>?_) fun hc1 h=>?_
 ·refine gs<|g0 j j (q (oAsI j j)<|nl)<|us<|Go.ret (Unw.ret ?_)
  cases h
  exact fr rF355 j
 ·refine Go.skip<|us<|gs<|gs<|g0 j j (q (oAsI j j)<|nl)<|us<|Go.block<|?_
  obtain ⟨o,hl,h⟩:=bs h
  refine gl c355 j _ (fun (j_7_l4:Int)=>mk [(0,D 2 (.cp (u_S_l23Map m_0) 0)),(1,D 2 (W 1 eI placed_1)),(2,iv k_2),(7,iv j_7_l4)] []) (fun (o:(Unit ⊕ Bool)) (p:Ex×St)=>match o with | (.inl _)=>p.1= .exit 0∧p.2.norm ([],[])=mk [] [] | (.inr r2)=>p.1= .ret∧fin Try.prog cfg 355 Try.f355 [.im 2 false [.cp (u_S_l23Map m_0) 0],.im 2 false [W 1 eI placed_1],.im 2 false [I k_2]] p.2=some (B0 [(false,[.im 0 (V r2)])])) hl (by kernel_rfl) ?_ ?_ ?_
  ·intro o p hp e
   rcases o with u | r2<;>exact nomatch (hp.1.symm.trans e)
  ·rintro j_7_l4 o h
   unfold spec_l23Held_l4 at h
   refine gs<|gs<|?_
   obtain ⟨x17,hx17,h⟩:=bs h
   refine g0 j j (q (oMv j j)<|q (oMv j j)<|q (oNl j j j)<|q (oFA (r':=.im 2 _) j fF354_0 j j)<|q (oLd (cs:=[.im 2 _]) j tF41 j j)<|q (oMv j j)<|q (oIAI j hx17 sF41 j j)<|q (oLd (cs:=[.im 2 _]) j tF28 j j)<|q (oLnI j j uF28 j)<|q (oBi j j j j)<|nl)<|us<|gc h j iDec (fun hc6 h=>?_) fun hc6 h=>?_
   ·refine Go.skip<|us<|gs<|Go.block<|gs<|?_
    obtain ⟨x29,hx29,h⟩:=bs h
    obtain ⟨x32,hx32,h⟩:=bs h
    obtain ⟨x34,hx34,h⟩:=bs h
    refine g0 j j (q (oMv j j)<|q (oMv j j)<|q (oNl j j j)<|q (oFA (r':=.im 2 _) j fF354_0 j j)<|q (oLd (cs:=[.im 2 _]) j tF41 j j)<|q (oMv j j)<|q (oIAI j hx29 sF41 j j)<|q (oLd (cs:=[.im 2 _]) j tF28 j j)<|q (oMv j j)<|q (oIAI j hx32 sF28 j j)<|q (oLd (cs:=[.im 2 _]) j tF2 j j)<|q (oCa (xs:=[.v false [.im 2 _],.v false [.im 2 _]]) (vs:=[(false,[.im 0 _])]) (v:=.v false [.im 0 _]) (L_spec_l00Has hx34) (.inl j) j kF219_28_2 j (ppC j (ppC j pp0)) j j pb0 j j j)<|nl)<|us<|gc h j iR (fun hc7 h=>?_) fun hc7 h=>?_
    ·refine gs<|g0 j j (q (oAsI j j)<|nl)<|us<|Go.ret (Unw.ret ?_)
     cases h
     exact ⟨j,(fo rF355 j)⟩
    ·refine Go.skip<|Unw.blk<|us<|g0 j j (q (oMv j j)<|q (oBi j j j j)<|q (oAsI j j)<|nl)<|Unw.nil<|?_
     cases h
     exact ⟨j,(by kernel_rfl)⟩
   ·refine Go.exit<|ux<|Unw.nil<|?_
    cases h
    exact ⟨j,(by kernel_rfl)⟩
  ·rintro ⟨e,st⟩ hp
   rcases o with u | r2
   ·dsimp only at h
    obtain ⟨he,hst⟩:=hp
    obtain rfl:e= .exit 0:=he
    refine Unw.blkx<|us<|gs<|g2 c355 j j hst (q (oAsI j j)<|nl)<|us<|Go.ret (Unw.ret ?_)
    cases h
    exact fr rF355 j
   ·dsimp only at h
    obtain ⟨he,hfin⟩:=hp
    obtain rfl:e= .ret:=he
    cases h
    exact Unw.ret (Fin_ret hfin)
theorem L_spec_l23Trapped {m_0:S_l23Map} {placed_1:(List Int)} {k_2:Int} {r:Bool} (h:spec_l23Trapped m_0 placed_1 k_2=some r):FX 356 [.im 2 false [.cp (u_S_l23Map m_0) 0],.im 2 false [W 1 eI placed_1],.im 2 false [I k_2]] (B0 [(false,[.im 0 (V r)])]):=by
 unfold spec_l23Trapped at h
 refine gn 40 Try.func356 rfl ?_
 refine gs<|g0 j j (q (oAsI j j)<|nl)<|us<|gs<|gs<|?_
 obtain ⟨x13,hx13,h⟩:=bs h
 refine g0 j j (q (oMv j j)<|q (oNl j j j)<|q (oFA (r':=.im 2 _) j fF354_1 j j)<|q (oLd (cs:=[.im 2 _]) j tF145 j j)<|q (oMv j j)<|q (oIAI j hx13 sF145 j j)<|q (oLd (cs:=[.im 2 _]) j tF4 j j)<|nl)<|us<|gc h j iR (fun hc1 h=>?_) fun hc1 h=>?_
 ·refine gs<|g0 j j (q (oAsI j j)<|nl)<|us<|Go.ret (Unw.ret ?_)
  cases h
  exact fr rF356 j
 ·refine Go.skip<|us<|gs<|gs<|g0 j j (q (oAsI j j)<|nl)<|us<|Go.block<|?_
  obtain ⟨o,hl,h⟩:=bs h
  refine gl c356 j _ (fun (j_7_l4:Int)=>mk [(0,D 2 (.cp (u_S_l23Map m_0) 0)),(1,D 2 (W 1 eI placed_1)),(2,iv k_2),(7,iv j_7_l4)] []) (fun (o:(Unit ⊕ Bool)) (p:Ex×St)=>match o with | (.inl _)=>p.1= .exit 0∧p.2.norm ([],[])=mk [] [] | (.inr r2)=>p.1= .ret∧fin Try.prog cfg 356 Try.f356 [.im 2 false [.cp (u_S_l23Map m_0) 0],.im 2 false [W 1 eI placed_1],.im 2 false [I k_2]] p.2=some (B0 [(false,[.im 0 (V r2)])])) hl (by kernel_rfl) ?_ ?_ ?_
  ·intro o p hp e
   rcases o with u | r2<;>exact nomatch (hp.1.symm.trans e)
  ·rintro j_7_l4 o h
   unfold spec_l23Trapped_l4 at h
   refine gs<|gs<|?_
   obtain ⟨x21,hx21,h⟩:=bs h
   refine g0 j j (q (oMv j j)<|q (oMv j j)<|q (oNl j j j)<|q (oFA (r':=.im 2 _) j fF354_0 j j)<|q (oLd (cs:=[.im 2 _]) j tF41 j j)<|q (oMv j j)<|q (oIAI j hx21 sF41 j j)<|q (oLd (cs:=[.im 2 _]) j tF28 j j)<|q (oLnI j j uF28 j)<|q (oBi j j j j)<|nl)<|us<|gc h j iDec (fun hc6 h=>?_) fun hc6 h=>?_
   ·refine Go.skip<|us<|gs<|Go.block<|gs<|?_
    obtain ⟨x33,hx33,h⟩:=bs h
    obtain ⟨x36,hx36,h⟩:=bs h
    obtain ⟨x38,hx38,h⟩:=bs h
    refine g0 j j (q (oMv j j)<|q (oMv j j)<|q (oNl j j j)<|q (oFA (r':=.im 2 _) j fF354_0 j j)<|q (oLd (cs:=[.im 2 _]) j tF41 j j)<|q (oMv j j)<|q (oIAI j hx33 sF41 j j)<|q (oLd (cs:=[.im 2 _]) j tF28 j j)<|q (oMv j j)<|q (oIAI j hx36 sF28 j j)<|q (oLd (cs:=[.im 2 _]) j tF2 j j)<|q (oCa (xs:=[.v false [.im 2 _],.v false [.im 2 _]]) (vs:=[(false,[.im 0 _])]) (v:=.v false [.im 0 _]) (L_spec_l00Has hx38) (.inl j) j kF219_28_2 j (ppC j (ppC j pp0)) j j pb0 j j j)<|q (oUn j j j)<|nl)<|us<|?_
    by_cases hc7:x38=true
    ·rw [if_pos hc7] at h
     refine gF j (nF (iR.2 hc7))<|Go.skip<|Unw.blk<|us<|g0 j j (q (oMv j j)<|q (oBi j j j j)<|q (oAsI j j)<|nl)<|Unw.nil<|?_
     cases h
     exact ⟨j,(by kernel_rfl)⟩
    ·rw [if_neg hc7] at h
     refine gT j (nT (byF iR hc7))<|gs<|g0 j j (q (oAsI j j)<|nl)<|us<|Go.ret (Unw.ret ?_)
     cases h
     exact ⟨j,(fo rF356 j)⟩
   ·refine Go.exit<|ux<|Unw.nil<|?_
    cases h
    exact ⟨j,(by kernel_rfl)⟩
  ·rintro ⟨e,st⟩ hp
   rcases o with u | r2
   ·dsimp only at h
    obtain ⟨he,hst⟩:=hp
    obtain rfl:e= .exit 0:=he
    refine Unw.blkx<|us<|gs<|g2 c356 j j hst (q (oAsI j j)<|nl)<|us<|Go.ret (Unw.ret ?_)
    cases h
    exact fr rF356 j
   ·dsimp only at h
    obtain ⟨he,hfin⟩:=hp
    obtain rfl:e= .ret:=he
    cases h
    exact Unw.ret (Fin_ret hfin)
theorem L_spec_l23Kind {m_0:S_l23Map} {placed_1:(List Int)} {k_2:Int} {r:Int} (h:spec_l23Kind m_0 placed_1 k_2=some r):FX 328 [.im 2 false [.cp (u_S_l23Map m_0) 0],.im 2 false [W 1 eI placed_1],.im 2 false [I k_2]] (B0 [(false,[.im 0 (I r)])]):=by
 unfold spec_l23Kind at h
 refine gn 16 Try.func328 rfl ?_
 refine gs<|g0 j j (q (oAsI j j)<|nl)<|us<|gs<|gs<|?_
 obtain ⟨x10,hx10,h⟩:=bs h
 refine g0 j j (q (oMv j j)<|q (oMv j j)<|q (oMv j j)<|q (oCa (xs:=[.v false [.im 2 _],.v false [.im 2 _],.v false [.im 2 _]]) (vs:=[(false,[.im 0 _])]) (v:=.v false [.im 0 _]) (L_spec_l23Held hx10) (.inl j) j kF355_182_28_2 j (ppC j (ppC j (ppC j pp0))) j j pb0 j j j)<|q (oUn j j j)<|nl)<|us<|?_
 by_cases hc1:x10=true
 ·rw [if_pos hc1] at h
  refine gF j (nF (iR.2 hc1))<|Go.skip<|us<|gs<|gs<|?_
  obtain ⟨x15,hx15,h⟩:=bs h
  refine g0 j j (q (oMv j j)<|q (oMv j j)<|q (oMv j j)<|q (oCa (xs:=[.v false [.im 2 _],.v false [.im 2 _],.v false [.im 2 _]]) (vs:=[(false,[.im 0 _])]) (v:=.v false [.im 0 _]) (L_spec_l23Trapped hx15) (.inl j) j kF356_182_28_2 j (ppC j (ppC j (ppC j pp0))) j j pb0 j j j)<|nl)<|us<|gc h j iR (fun hc2 h=>?_) fun hc2 h=>?_
  ·refine gs<|g0 j j (q (oAsI j j)<|nl)<|us<|Go.ret (Unw.ret ?_)
   cases h
   exact fr rF328 j
  ·refine Go.skip<|us<|gs<|g0 j j (q (oAsI j j)<|nl)<|us<|Go.ret (Unw.ret ?_)
   cases h
   exact fr rF328 j
 ·rw [if_neg hc1] at h
  refine gT j (nT (byF iR hc1))<|gs<|g0 j j (q (oAsI j j)<|nl)<|us<|Go.ret (Unw.ret ?_)
  cases h
  exact fr rF328 j
theorem L_spec_l23Next {m_0:S_l23Map} {placed_1:(List Int)} {r:(List Int)} (h:spec_l23Next m_0 placed_1=some r):FX 289 [.im 2 false [.cp (u_S_l23Map m_0) 0],.im 2 false [W 1 eI placed_1]] (B0 [(false,[.ow 0 1 (List.map eI r)])]):=by
 unfold spec_l23Next at h
 refine gn 33 Try.func289 rfl ?_
 refine gs<|g0 j j (q (oAsN j j eF28)<|nl)<|us<|gs<|g0 j j (q (oBS (es:=List.map eI ([]:List Int)) j sF28 j pt0 (flat0 j fun _=>j))<|q (oAsO j j j j j)<|nl)<|us<|gs<|gs<|g0 j j (q (oAsI j j)<|nl)<|us<|Go.block<|?_
 obtain ⟨o,hl,h⟩:=bs h
 refine gl c289 j _ (fun (s:(Int×(List Int)))=>match s with | (k_6_l3,out_o5_l3)=>mk [(0,D 2 (.cp (u_S_l23Map m_0) 0)),(1,D 2 (W 1 eI placed_1)),(5,H 5 0),(6,iv k_6_l3)] [(5,Oc [Z (W 1 eI out_o5_l3)])]) (fun (out_o5_e0_3:(List Int)) (p:Ex×St)=>p.1= .exit 0∧p.2.norm ([5],[5])=mk [(5,H 5 0)] [(5,Oc [Z (W 1 eI out_o5_e0_3)])]) hl (by kernel_rfl) ?_ ?_ ?_
 ·intro o p hp e
  exact nomatch (hp.1.symm.trans e)
 ·rintro ⟨k_6_l3,out_o5_l3⟩ o h
  unfold spec_l23Next_l3 at h
  dsimp only at h
  refine gs<|gs<|g0 j j (q (oMv j j)<|q (oMv j j)<|q (oNl j j j)<|q (oFA (r':=.im 2 _) j fF354_0 j j)<|q (oLd (cs:=[.im 2 _]) j tF41 j j)<|q (oLnI j j uF41 j)<|q (oBi j j j j)<|nl)<|us<|gc h j iDec (fun hc9 h=>?_) fun hc9 h=>?_
  ·refine Go.skip<|us<|gs<|Go.join (fun st=>∃out_o5_r4,spec_l23Next_k4 k_6_l3 out_o5_r4=some o∧st.norm ([0,1,5,6],[5])=mk [(0,D 2 (.cp (u_S_l23Map m_0) 0)),(1,D 2 (W 1 eI placed_1)),(5,H 5 0),(6,iv k_6_l3)] [(5,Oc [Z (W 1 eI out_o5_r4)])]) ?_ ?_
   ·rintro st ⟨out_o5_r4,h,hst⟩
    unfold spec_l23Next_k4 at h
    refine us<|g2 c289 j j hst (q (oMv j j)<|q (oBi j j j j)<|q (oAsI j j)<|nl)<|Unw.nil<|?_
    cases h
    exact ⟨j,(by kernel_rfl)⟩
   ·intro K13
    refine Go.block<|gs<|?_
    obtain ⟨x19,hx19,h⟩:=bs h
    obtain ⟨t_27_m5,hm16,h⟩:=bs h
    refine gX c289 j j j (mk [(0,D 2 (.cp (u_S_l23Map m_0) 0)),(1,D 2 (W 1 eI placed_1)),(5,H 5 0),(6,iv k_6_l3),(27,bv t_27_m5)] [(5,Oc [Z (W 1 eI out_o5_l3)])]) ?_ ?_
    ·refine xq (oMv j j)<|xq (oMv j j)<|xq (oCa (xs:=[.v false [.im 2 _],.v false [.im 0 _]]) (vs:=[(false,[.im 0 _])]) (v:=.v false [.im 0 _]) (L_spec_l00Has hx19) (.inl j) j kF219_28_2 j (ppC j (ppC j pp0)) j j pb0 j j j)<|xq (oUn j j j)<|xq (oMv j j)<|?_
     refine ic hm16 (fun hc14 hm16=>?_) fun hc14 hm16=>?_
     ·cases hm16
      exact xsgF j j (nF (iR.2 hc14)) j<|xsgF j j (nF (iR.2 hc14)) j<|xsgF j j (nF (iR.2 hc14)) j<|xsgF j j (nF (iR.2 hc14)) j<|xsgF j j (nF (iR.2 hc14)) j<|xq (oPkF j j (nF (iR.2 hc14)) j)<|xn
     ·obtain ⟨x25,hx25,hm16⟩:=bs hm16
      cases hm16
      exact xqT j j (nT (byF iR hc14)) (oMv j j)<|xqT j j (nT (byF iR hc14)) (oMv j j)<|xqT j j (nT (byF iR hc14)) (oMv j j)<|xqT j j (nT (byF iR hc14)) (oCa (xs:=[.v false [.im 2 _],.v false [.im 2 _],.v false [.im 0 _]]) (vs:=[(false,[.im 0 _])]) (v:=.v false [.im 0 _]) (L_spec_l23Kind hx25) (.inl j) j kF328_182_28_2 j (ppC j (ppC j (ppC j pp0))) j j pb0 j j j)<|xqT j j (nT (byF iR hc14)) (oBi j j j j)<|xq (oPkT j j (nT (byF iR hc14)) j)<|xn
    ·refine us<|gc h j iR (fun hc15 h=>?_) fun hc15 h=>?_
     ·obtain ⟨x31,hx31,h⟩:=bs h
      exact g0 j j (q (oMv j j)<|q (oMv j j)<|q (oBS (es:=List.map eI ([k_6_l3]:List Int)) j sF28 j (ptC j (fxI fx0) j pt0) (flat0 j fun _=>j))<|q (oApO (en:=eI) (M:=([k_6_l3]:List Int)) j hx31 j sF28 j j uF28 (.inl ⟨_,j⟩) j j j j (el_own j j) (flat0 j fun _=>j))<|q (oAsO j j j j j)<|nl)<|Unw.blk<|K13 _ ⟨x31,h,(by kernel_rfl)⟩
     ·exact Go.skip<|Unw.blk<|K13 _ ⟨out_o5_l3,h,(by kernel_rfl)⟩
  ·refine Go.exit<|ux<|Unw.nil<|?_
   cases h
   exact ⟨j,(by kernel_rfl)⟩
 ·rintro ⟨e,st⟩ hp
  obtain ⟨out_o5_e0_3,rfl⟩:∃y,y=o:=⟨o,rfl⟩
  obtain ⟨he,hst⟩:=hp
  obtain rfl:e= .exit 0:=he
  refine Unw.blkx<|us<|gs<|g2 c289 j j hst (q (oMv j j)<|q (oAsO j j j j j)<|nl)<|us<|Go.ret (Unw.ret ?_)
  cases h
  exact fr rF289 j
theorem L_spec_l23Search_visit_F {self:S_l23Search→Option (Bool×S_l23Search)} (ih:∀{x_0:S_l23Search} {r:(Bool×S_l23Search)},self x_0=some r→FX 203 [.ptr true [(.imm,.cp (u_S_l23Map x_0.m) 0),(.sh,W 1 eI x_0.order),(.imm,V x_0.first),(.sh,W 1 eI x_0.best),(.imm,I x_0.count),(.imm,I x_0.nodes),(.imm,I x_0.budget)]] ([(false,[.im 0 (V r.1)])],[.ptr true [(.imm,.cp (u_S_l23Map r.2.m) 0),(.sh,W 1 eI r.2.order),(.imm,V r.2.first),(.sh,W 1 eI r.2.best),(.imm,I r.2.count),(.imm,I r.2.nodes),(.imm,I r.2.budget)]])) {x_0:S_l23Search} {r:(Bool×S_l23Search)} (h:spec_l23Search_visit_F self x_0=some r):FX 203 [.ptr true [(.imm,.cp (u_S_l23Map x_0.m) 0),(.sh,W 1 eI x_0.order),(.imm,V x_0.first),(.sh,W 1 eI x_0.best),(.imm,I x_0.count),(.imm,I x_0.nodes),(.imm,I x_0.budget)]] ([(false,[.im 0 (V r.1)])],[.ptr true [(.imm,.cp (u_S_l23Map r.2.m) 0),(.sh,W 1 eI r.2.order),(.imm,V r.2.first),(.sh,W 1 eI r.2.best),(.imm,I r.2.count),(.imm,I r.2.nodes),(.imm,I r.2.budget)]]):=by
 unfold spec_l23Search_visit_F at h
 refine FL_goS (A:=[(0,M 0)]) (B:=[(0,Od [Ct 1 (.cp (u_S_l23Map x_0.m) 0),Z (W 1 eI x_0.order),C (V x_0.first),Z (W 1 eI x_0.best),C (I x_0.count),C (I x_0.nodes),C (I x_0.budget)])]) (nt:=107) rfl rfl Try.func203 rfl rfl rfl rfl ?_
 refine gs<|g0 j j (q (oAsI j j)<|nl)<|us<|gs<|g0 j j (q (oMv j j)<|q (oNl j j j)<|q (oFA (r':=.mp 0 0 5) j fF184_5 j j)<|q (oLd (cs:=[.im 0 _]) j tF2 j j)<|q (oBi j j j j)<|q (oNl j j j)<|q (oFA (r':=.mp 0 0 5) j fF184_5 j j)<|q (oSt tF2 j j j (tkI tk0) j j j)<|nl)<|us<|gs<|gs<|gd c203 j j j (st1:=mk [(0,M 0)] [(0,Od [Ct 1 (.cp (u_S_l23Map x_0.m) 0),Z (W 1 eI x_0.order),C (V x_0.first),Z (W 1 eI x_0.best),C (I x_0.count),C (I (w64 (x_0.nodes+1))),C (I x_0.budget)])]) (by kernel_rfl) (mk [(0,M 0),(21,bv (decide ((w64 (x_0.nodes+1)) >x_0.budget)))] [(0,Od [Ct 1 (.cp (u_S_l23Map x_0.m) 0),Z (W 1 eI x_0.order),C (V x_0.first),Z (W 1 eI x_0.best),C (I x_0.count),C (I (w64 (x_0.nodes+1))),C (I x_0.budget)])]) (t j j (oMv j j)<|t j j (oNl j j j)<|t j j (oFA (r':=.mp 0 0 5) j fF184_5 j j)<|t j j (oLd (cs:=[.im 0 _]) j tF2 j j)<|t j j (oMv j j)<|t j j (oNl j j j)<|t j j (oFA (r':=.mp 0 0 6) j fF184_6 j j)<|t j j (oLd (cs:=[.im 0 _]) j tF2 j j)<|t j j (oBi j j j j)<|sD (by kernel_rfl))<|us<|gc h j iDec (fun hc1 h=>?_) fun hc1 h=>?_
 ·refine gs<|g0 j j (q (oAsI j j)<|nl)<|us<|Go.ret (Unw.ret ?_)
  cases h
  exact fr rF203 j
 ·refine Go.skip<|us<|gs<|gs<|gd c203 j j j j (mk [(0,M 0),(35,bv ((x_0.order.length:Int)==(x_0.m.near.length:Int)))] [(0,Od [Ct 1 (.cp (u_S_l23Map x_0.m) 0),Z (W 1 eI x_0.order),C (V x_0.first),Z (W 1 eI x_0.best),C (I x_0.count),C (I (w64 (x_0.nodes+1))),C (I x_0.budget)])]) (t j j (oMv j j)<|t j j (oNl j j j)<|t j j (oFA (r':=.mp 0 0 1) j fF184_1 j j)<|t j j (oLd (cs:=[.own 0 0 1]) j tF28 j j)<|t j j (oLnO j j uF28 j j j (fun e=>nomatch e))<|t j j (oMv j j)<|t j j (oNl j j j)<|t j j (oFA (r':=.mp 0 0 0) j fF184_0 j j)<|t j j (oLd (cs:=[.im 1 _]) j tF182 j j)<|t j j (oNl j j j)<|t j j (oFA (r':=.im 1 _) j fF354_0 j j)<|t j j (oLd (cs:=[.im 1 _]) j tF41 j j)<|t j j (oLnI j j uF41 j)<|t j j (oBi j j j j)<|sD (by kernel_rfl))<|us<|gc h j iEq (fun hc2 h=>?_) fun hc2 h=>?_
  ·refine gs<|g0 j j (q (oMv j j)<|q (oNl j j j)<|q (oFA (r':=.mp 0 0 4) j fF184_4 j j)<|q (oLd (cs:=[.im 0 _]) j tF2 j j)<|q (oBi j j j j)<|q (oNl j j j)<|q (oFA (r':=.mp 0 0 4) j fF184_4 j j)<|q (oSt tF2 j j j (tkI tk0) j j j)<|nl)<|us<|gs<|gs<|g1 j j (mk [(0,M 0)] [(0,Od [Ct 1 (.cp (u_S_l23Map x_0.m) 0),Z (W 1 eI x_0.order),C (V x_0.first),Z (W 1 eI x_0.best),C (I (w64 (x_0.count+1))),C (I (w64 (x_0.nodes+1))),C (I x_0.budget)])]) (q (oMv j j)<|q (oNl j j j)<|q (oFA (r':=.mp 0 0 4) j fF184_4 j j)<|q (oLd (cs:=[.im 0 _]) j tF2 j j)<|q (oBi j j j j)<|nl)<|us<|Go.join (fun st=>∃x_o0_3_r8,spec_l23Search_visit_k8 self x_0 x_o0_3_r8=some r∧st.norm ([0],[0])=mk [(0,M 0)] [(0,Od [Ct 1 (.cp (u_S_l23Map x_0.m) 0),Z (W 1 eI x_0.order),C (V x_0.first),Z (W 1 eI x_o0_3_r8),C (I (w64 (x_0.count+1))),C (I (w64 (x_0.nodes+1))),C (I x_0.budget)])]) ?_ ?_
   ·rintro st ⟨x_o0_3_r8,h,hst⟩
    unfold spec_l23Search_visit_k8 at h
    refine us<|gs<|g2 c203 j j hst (q (oMv j j)<|q (oNl j j j)<|q (oFA (r':=.mp 0 0 2) j fF184_2 j j)<|q (oLd (cs:=[.im 0 _]) j tF4 j j)<|q (oUn j j j)<|q (oAsI j j)<|nl)<|us<|Go.ret (Unw.ret ?_)
    cases h
    exact fr rF203 j
   ·intro K4
    refine gc h j iEq (fun hc5 h=>?_) fun hc5 h=>?_
    ·obtain ⟨x53,hx53,h⟩:=bs h
     exact g0 j j (q (oMv j j)<|q (oMv j j)<|q (oNl j j j)<|q (oFA (r':=.mp 0 0 1) j fF184_1 j j)<|q (oLd (cs:=[.own 0 0 1]) j tF28 j j)<|q (oCr (xs:=[.v false [.own 0 0 1]]) (vs:=[(false,[.own 53 0 0])]) (v:=.v false [.own 53 0 0]) (c:=⟨.sh,0,_⟩) (cs:=[]) (L_spec_l00Own hx53) (.inl j) j kF117_28 j (ppC j pp0) j j pb0 j j j)<|q (oNl j j j)<|q (oFA (r':=.mp 0 0 3) j fF184_3 j j)<|q (oSt tF28 j j j (tkO j j tk0) j j j)<|nl)<|K4 _ ⟨x53,h,(by kernel_rfl)⟩
    ·exact Go.skip<|K4 _ ⟨x_0.best,h,(by kernel_rfl)⟩
  ·refine Go.skip<|us<|gs<|?_
   obtain ⟨x69,hx69,h⟩:=bs h
   refine gd c203 j j j j (mk [(0,M 0),(3,H 3 0)] [(0,Od [Ct 1 (.cp (u_S_l23Map x_0.m) 0),Z (W 1 eI x_0.order),C (V x_0.first),Z (W 1 eI x_0.best),C (I x_0.count),C (I (w64 (x_0.nodes+1))),C (I x_0.budget)]),(3,Oc [Z (W 1 eI x69)])]) (t j j (oMv j j)<|t j j (oNl j j j)<|t j j (oFA (r':=.mp 0 0 0) j fF184_0 j j)<|t j j (oLd (cs:=[.im 1 _]) j tF182 j j)<|t j j (oMv j j)<|t j j (oNl j j j)<|t j j (oFA (r':=.mp 0 0 1) j fF184_1 j j)<|t j j (oLd (cs:=[.own 0 0 1]) j tF28 j j)<|sS (dN z203 j (oCr (xs:=[.v false [.im 1 _],.v false [.own 0 0 1]]) (vs:=[(false,[.own 69 0 0])]) (v:=.v false [.own 69 0 0]) (c:=⟨.sh,0,_⟩) (cs:=[]) (L_spec_l23Next hx69) (.inl j) j kF289_182_28 j (ppC j (ppC j pp0)) j j pb0 j j j)) trivial (sS (dN z203 j (oAsO j j j j j)) trivial (sD (by kernel_rfl))))<|us<|gs<|gs<|g0 j j (q (oAsI j j)<|nl)<|us<|Go.block<|?_
   obtain ⟨o,hl,h⟩:=bs h
   refine gl c203 j _ (fun (s:(Int×(List (List Int))×(List Bool)×(List Int)×Bool×(List Int)×Int×Int×Int))=>match s with | (i_4_l11,x_o0_0_0_l11,x_o0_0_1_l11,x_o0_1_l11,x_o0_2_l11,x_o0_3_l11,x_o0_4_l11,x_o0_5_l11,x_o0_6_l11)=>mk [(0,M 0),(3,H 3 0),(4,iv i_4_l11)] [(0,Od [Ct 1 (.cp [W 1 (eL 1 eI) x_o0_0_0_l11,W 1 eB x_o0_0_1_l11] 0),Z (W 1 eI x_o0_1_l11),C (V x_o0_2_l11),Z (W 1 eI x_o0_3_l11),C (I x_o0_4_l11),C (I x_o0_5_l11),C (I x_o0_6_l11)]),(3,Oc [Z (W 1 eI x69)])]) (fun (o:(((List (List Int))×(List Bool)×(List Int)×Bool×(List Int)×Int×Int×Int) ⊕ (Bool×S_l23Search))) (p:Ex×St)=>match o with | (.inl (x_o0_0_0_e0_11,x_o0_0_1_e0_11,x_o0_1_e0_11,x_o0_2_e0_11,x_o0_3_e0_11,x_o0_4_e0_11,x_o0_5_e0_11,x_o0_6_e0_11))=>p.1= .exit 0∧p.2.norm ([],[0])=mk [] [(0,Od [Ct 1 (.cp [W 1 (eL 1 eI) x_o0_0_0_e0_11,W 1 eB x_o0_0_1_e0_11] 0),Z (W 1 eI x_o0_1_e0_11),C (V x_o0_2_e0_11),Z (W 1 eI x_o0_3_e0_11),C (I x_o0_4_e0_11),C (I x_o0_5_e0_11),C (I x_o0_6_e0_11)])] | (.inr r2)=>p.1= .ret∧fin Try.prog cfg 203 Try.f203 [.ptr true [(.imm,.cp (u_S_l23Map x_0.m) 0),(.sh,W 1 eI x_0.order),(.imm,V x_0.first),(.sh,W 1 eI x_0.best),(.imm,I x_0.count),(.imm,I x_0.nodes),(.imm,I x_0.budget)]] p.2=some ([(false,[.im 0 (V r2.1)])],[.ptr true [(.imm,.cp (u_S_l23Map r2.2.m) 0),(.sh,W 1 eI r2.2.order),(.imm,V r2.2.first),(.sh,W 1 eI r2.2.best),(.imm,I r2.2.count),(.imm,I r2.2.nodes),(.imm,I r2.2.budget)]])) hl (by kernel_rfl) ?_ ?_ ?_
   ·intro o p hp e
    rcases o with ⟨x_o0_0_0_e0_11,x_o0_0_1_e0_11,x_o0_1_e0_11,x_o0_2_e0_11,x_o0_3_e0_11,x_o0_4_e0_11,x_o0_5_e0_11,x_o0_6_e0_11⟩ | r2<;>exact nomatch (hp.1.symm.trans e)
   ·rintro ⟨i_4_l11,x_o0_0_0_l11,x_o0_0_1_l11,x_o0_1_l11,x_o0_2_l11,x_o0_3_l11,x_o0_4_l11,x_o0_5_l11,x_o0_6_l11⟩ o h
    unfold spec_l23Search_visit_l11 at h
    dsimp only at h
    refine gs<|gs<|g0 j j (q (oMv j j)<|q (oMv j j)<|q (oLnO j j uF28 j j j (fun e=>nomatch e))<|q (oBi j j j j)<|nl)<|us<|gc h j iDec (fun hc10 h=>?_) fun hc10 h=>?_
    ·refine Go.skip<|us<|gs<|Go.block<|gs<|?_
     obtain ⟨x83,hx83,h⟩:=bs h
     obtain ⟨x86,hx86,h⟩:=bs h
     refine gd c203 j j j j (mk [(0,M 0),(3,H 3 0),(4,iv i_4_l11)] [(0,Od [Ct 1 (.cp [W 1 (eL 1 eI) x_o0_0_0_l11,W 1 eB x_o0_0_1_l11] 0),Z (W 1 eI x86),C (V x_o0_2_l11),Z (W 1 eI x_o0_3_l11),C (I x_o0_4_l11),C (I x_o0_5_l11),C (I x_o0_6_l11)]),(3,Oc [Z (W 1 eI x69)])]) (t j j (oMv j j)<|t j j (oMv j j)<|t j j (oMv j j)<|t j j (oMv j j)<|t j j (oIAO j hx83 sF28 j j j j)<|t j j (oLdE (cs:=[.im 0 _]) j tF2 j j j j (rd_get hx83) j j)<|sK (O:=[0]) j j j (dN z203 j (oNl j j j))<|sK (O:=[0]) j j j (dN z203 j (oFA (r':=.mp 0 0 1) j fF184_1 j j))<|sK (O:=[0]) j j j (dN z203 j (oLd (cs:=[.own 0 0 1]) j tF28 j j))<|sS (dN z203 j (oBS (es:=List.map eI ([x83]:List Int)) j sF28 j (ptC j (fxI fx0) j pt0) (flat0 j fun _=>j))) (kY ⟨j,trivial⟩ (kY ⟨j,trivial⟩ (kY ⟨j,trivial⟩ trivial))) (sS (dN z203 j (oApO (en:=eI) (M:=([x83]:List Int)) j hx86 j sF28 j j uF28 (.inl ⟨_,j⟩) j j j j (el_own j j) (flat0 j fun _=>j))) (kN j (kN j (kN j trivial))) (t j j (oNl j j j)<|t j j (oFA (r':=.mp 0 0 1) j fF184_1 j j)<|sS (dN z203 j (oSt tF28 j j j (tkO j j tk0) j j j)) (kN j (kN j (kN j trivial))) (sD (by kernel_rfl)))))<|us<|gs<|?_
     obtain ⟨x90,hx90,h⟩:=bs h
     refine g0 j j (q (oMv j j)<|q (oCa (xs:=[.v false [.mp 0 0 0]]) (vs:=[(false,[.im 0 _])]) (v:=.v false [.im 0 _]) (ih hx90) (.inl j) j kF203_179 j (ppPx (ob':=⟨0,0,true,true,false,true,[Ct 1 (.cp [W 1 (eL 1 eI) x_o0_0_0_l11,W 1 eB x_o0_0_1_l11] 0),Z (W 1 eI x86),C (V x_o0_2_l11),Z (W 1 eI x_o0_3_l11),C (I x_o0_4_l11),C (I x_o0_5_l11),C (I x_o0_6_l11)]⟩) j j j (by kernel_rfl) pp0) j j (pbPx (ob':=⟨0,1,true,true,false,true,[⟨.imm,1,1,.cp (u_S_l23Map x90.2.m) 0⟩,⟨.sh,1,0,W 1 eI x90.2.order⟩,⟨.imm,1,0,V x90.2.first⟩,⟨.sh,1,0,W 1 eI x90.2.best⟩,⟨.imm,1,0,I x90.2.count⟩,⟨.imm,1,0,I x90.2.nodes⟩,⟨.imm,1,0,I x90.2.budget⟩]⟩) j j (by kernel_rfl) pb0) j j j)<|q (oAsI j j)<|nl)<|us<|gs<|?_
     obtain ⟨x102,hx102,h⟩:=bs h
     refine gd c203 j j j (st1:=mk [(0,M 0),(3,H 3 0),(4,iv i_4_l11),(5,bv x90.1)] [(0,Od [Ct 1 (.cp (u_S_l23Map x90.2.m) 0),Z (W 1 eI x90.2.order),C (V x90.2.first),Z (W 1 eI x90.2.best),C (I x90.2.count),C (I x90.2.nodes),C (I x90.2.budget)]),(3,Oc [Z (W 1 eI x69)])]) (by kernel_rfl) (mk [(0,M 0),(3,H 3 0),(4,iv i_4_l11),(5,bv x90.1)] [(0,Od [Ct 1 (.cp (u_S_l23Map x90.2.m) 0),Z (W 1 eI ((x90.2.order.take ((w64 ((x90.2.order.length:Int) - 1)).toNat)).drop 0)),C (V x90.2.first),Z (W 1 eI x90.2.best),C (I x90.2.count),C (I x90.2.nodes),C (I x90.2.budget)]),(3,Oc [Z (W 1 eI x69)])]) (t j j (oMv j j)<|t j j (oMv j j)<|t j j (oNl j j j)<|t j j (oFA (r':=.mp 0 0 1) j fF184_1 j j)<|t j j (oLd (cs:=[.own 0 0 1]) j tF28 j j)<|t j j (oMv j j)<|t j j (oNl j j j)<|t j j (oFA (r':=.mp 0 0 1) j fF184_1 j j)<|t j j (oLd (cs:=[.own 0 0 1]) j tF28 j j)<|t j j (oLnO j j uF28 j j j (fun e=>nomatch e))<|t j j (oBi j j j j)<|sS (dN z203 j (oSlO j hx102 sF28 j j j bn0 (bn1 j) j j j)) trivial (t j j (oNl j j j)<|t j j (oFA (r':=.mp 0 0 1) j fF184_1 j j)<|sS (dN z203 j (oSt tF28 j j j (tkSM j j tk0) j j j)) trivial (sD (by kernel_rfl))))<|us<|gs<|g0 j j (q (oMv j j)<|q (oUn j j j)<|nl)<|us<|?_
     by_cases hc11:x90.1=true
     ·rw [if_pos hc11] at h
      refine gF j (nF (iR.2 hc11))<|Go.skip<|Unw.blk<|us<|g0 j j (q (oMv j j)<|q (oBi j j j j)<|q (oAsI j j)<|nl)<|Unw.nil<|?_
      cases h
      exact ⟨j,(by kernel_rfl)⟩
     ·rw [if_neg hc11] at h
      refine gT j (nT (byF iR hc11))<|gs<|g0 j j (q (oAsI j j)<|nl)<|us<|Go.ret (Unw.ret ?_)
      cases h
      exact ⟨j,(fo rF203 j)⟩
    ·refine Go.exit<|ux<|Unw.nil<|?_
     cases h
     exact ⟨j,(by kernel_rfl)⟩
   ·rintro ⟨e,st⟩ hp
    rcases o with ⟨x_o0_0_0_e0_11,x_o0_0_1_e0_11,x_o0_1_e0_11,x_o0_2_e0_11,x_o0_3_e0_11,x_o0_4_e0_11,x_o0_5_e0_11,x_o0_6_e0_11⟩ | r2
    ·dsimp only at h
     obtain ⟨he,hst⟩:=hp
     obtain rfl:e= .exit 0:=he
     refine Unw.blkx<|us<|gs<|g2 c203 j j hst (q (oAsI j j)<|nl)<|us<|Go.ret (Unw.ret ?_)
     cases h
     exact fr rF203 j
    ·dsimp only at h
     obtain ⟨he,hfin⟩:=hp
     obtain rfl:e= .ret:=he
     cases h
     exact Unw.ret (Fin_ret hfin)
theorem L_spec_l23Search_visit {x_0:S_l23Search} {r:(Bool×S_l23Search)} (h:spec_l23Search_visit x_0=some r):FX 203 [.ptr true [(.imm,.cp (u_S_l23Map x_0.m) 0),(.sh,W 1 eI x_0.order),(.imm,V x_0.first),(.sh,W 1 eI x_0.best),(.imm,I x_0.count),(.imm,I x_0.nodes),(.imm,I x_0.budget)]] ([(false,[.im 0 (V r.1)])],[.ptr true [(.imm,.cp (u_S_l23Map r.2.m) 0),(.sh,W 1 eI r.2.order),(.imm,V r.2.first),(.sh,W 1 eI r.2.best),(.imm,I r.2.count),(.imm,I r.2.nodes),(.imm,I r.2.budget)]]):=by
 unfold spec_l23Search_visit at h
 obtain ⟨n,hn⟩:=fixO_iter h
 clear h
 induction n generalizing x_0 r with
 | zero=>cases hn
 | succ n ihn=>exact L_spec_l23Search_visit_F (self:=iterO _ n) (fun h=>ihn h) hn
theorem L_spec_l23Run {d_0:S_Drawing} {budget_1:Int} {first_2:Bool} {r:((Option S_l23Search)×Int)} (h:spec_l23Run d_0 budget_1 first_2=some r):FX 112 [.im 2 false [.cp (u_S_Drawing d_0) 0],.im 2 false [I budget_1],.im 2 false [V first_2]] (B0 [(false,[.im 0 (eO e_S_l23Search r.1)]),(false,[.im 0 (I r.2)])]):=by
 unfold spec_l23Run at h
 refine gn 30 Try.func112 rfl ?_
 refine gs<|g0 j j (q (oAsI j j)<|q (oAsI j j)<|nl)<|us<|gs<|gs<|?_
 obtain ⟨x10,hx10,h⟩:=bs h
 refine g0 j j (q (oMv j j)<|q (oCa (xs:=[.v false [.im 2 _]]) (vs:=[(false,[.im 0 _])]) (v:=.v false [.im 0 _]) (L_spec_l05Ok hx10) (.inl j) j kF84_141 j (ppC j pp0) j j pb0 j j j)<|q (oUn j j j)<|nl)<|us<|?_
 by_cases hc1:x10=true
 ·rw [if_pos hc1] at h
  refine gF j (nF (iR.2 hc1))<|Go.skip<|us<|gs<|gs<|?_
  obtain ⟨x13,hx13,h⟩:=bs h
  refine g0 j j (q (oMv j j)<|q (oCa (xs:=[.v false [.im 2 _],.v false [.im 0 _],.v false [.im 0 _]]) (vs:=[(false,[.im 0 _])]) (v:=.v false [.im 0 _]) (L_spec_l00In hx13) (.inl j) j kF94_2_2_2 j (ppC j (ppC j (ppC j pp0))) j j pb0 j j j)<|q (oUn j j j)<|nl)<|us<|?_
  by_cases hc2:x13=true
  ·rw [if_pos hc2] at h
   refine gF j (nF (iR.2 hc2))<|Go.skip<|us<|gs<|?_
   obtain ⟨x16,hx16,h⟩:=bs h
   refine g0 j j (q (oMv j j)<|q (oCp (xs:=[.v false [.im 2 _]]) (L_spec_l23Of hx16) (.inl j) j kF202_141 j (ppC j pp0) j j pb0 j)<|q (oMv j j)<|q (oMv j j)<|q (oBu (cs:=[.mp 16 0 0,.nil,.im 2 _,.nil,.im 0 _,.im 0 _,.im 2 _]) j bF184 j)<|q (oBx j tF184 j (tkP j j j (tkN (tkI (tkN (tkI (tkI (tkI tk0))))))))<|q (oAsP j j)<|nl)<|us<|gs<|?_
   obtain ⟨x22,hx22,h⟩:=bs h
   refine g1 j j (mk [(1,iv budget_1),(8,M 20)] [(20,Oa [C (.cp (u_S_l23Map x16) 0),Z (W 1 eI ([]:List Int)),C (V first_2),Z (W 1 eI ([]:List Int)),C (I 0),C (I 0),C (I budget_1)])]) (q (oMv j j)<|q (oCa (xs:=[.v false [.mp 20 0 0]]) (vs:=[(false,[.im 0 _])]) (v:=.v false [.im 0 _]) (L_spec_l23Search_visit hx22) (.inl j) j kF203_179 j (ppPx (ob':=⟨0,0,false,true,false,true,[C (.cp (u_S_l23Map x16) 0),Z (W 1 eI ([]:List Int)),C (V first_2),Z (W 1 eI ([]:List Int)),C (I 0),C (I 0),C (I budget_1)]⟩) j j j (by kernel_rfl) pp0) j j (pbPx (ob':=⟨0,1,false,true,false,true,[⟨.imm,1,0,.cp (u_S_l23Map x22.2.m) 0⟩,⟨.sh,1,0,W 1 eI x22.2.order⟩,⟨.imm,1,0,V x22.2.first⟩,⟨.sh,1,0,W 1 eI x22.2.best⟩,⟨.imm,1,0,I x22.2.count⟩,⟨.imm,1,0,I x22.2.nodes⟩,⟨.imm,1,0,I x22.2.budget⟩]⟩) j j (by kernel_rfl) pb0) j j j)<|nl)<|us<|gs<|gs<|g1 j j (mk [(1,iv budget_1),(8,M 20)] [(20,Oa [C (.cp (u_S_l23Map x22.2.m) 0),Z (W 1 eI x22.2.order),C (V x22.2.first),Z (W 1 eI x22.2.best),C (I x22.2.count),C (I x22.2.nodes),C (I x22.2.budget)])]) (q (oMv j j)<|q (oNl j j j)<|q (oFA (r':=.mp 20 0 5) j fF184_5 j j)<|q (oLd (cs:=[.im 0 _]) j tF2 j j)<|q (oMv j j)<|q (oBi j j j j)<|nl)<|us<|gc h j iDec (fun hc3 h=>?_) fun hc3 h=>?_
   ·refine gs<|g0 j j (q (oAsI j j)<|q (oAsI j j)<|nl)<|us<|Go.ret (Unw.ret ?_)
    cases h
    exact fr rF112 j
   ·refine Go.skip<|us<|gs<|g0 j j (q (oMv j j)<|q (oAsP j j)<|q (oAsI j j)<|nl)<|us<|Go.ret (Unw.ret ?_)
    cases h
    exact fr rF112 j
  ·rw [if_neg hc2] at h
   refine gT j (nT (byF iR hc2))<|gs<|g0 j j (q (oAsI j j)<|q (oAsI j j)<|nl)<|us<|Go.ret (Unw.ret ?_)
   cases h
   exact fr rF112 j
 ·rw [if_neg hc1] at h
  refine gT j (nT (byF iR hc1))<|gs<|g0 j j (q (oAsI j j)<|q (oAsI j j)<|nl)<|us<|Go.ret (Unw.ret ?_)
  cases h
  exact fr rF112 j
theorem L_spec_CountAssemblies {d_0:S_Drawing} {budget_1:Int} {r:(Int×Int)} (h:spec_CountAssemblies d_0 budget_1=some r):FX 37 [.im 2 true (u_S_Drawing d_0),.im 2 false [I budget_1]] (B0 [(false,[.im 0 (I r.1)]),(false,[.im 0 (I r.2)])]):=by
 unfold spec_CountAssemblies at h
 refine gn 20 Try.func37 rfl ?_
 refine gs<|g0 j j (q (oBx j tF26 j (tkI (tkI (tkI (tkI tk0)))))<|q (oAsI j j)<|q (oAsI j j)<|nl)<|us<|gs<|?_
 obtain ⟨x10,hx10,h⟩:=bs h
 refine g0 j j (q (oMv j j)<|q (oCa (xs:=[.v false [.mp 2 0 0],.v false [.im 2 _],.v false [.im 0 _]]) (vs:=[(false,[.im 0 (eO e_S_l23Search x10.1)]),(false,[.im 0 (I x10.2)])]) (v:=.tup [(false,[.im 0 _]),(false,[.im 0 _])]) (L_spec_l23Run hx10) (.inl j) j kF112_141_2_4 j (ppC j (ppC j (ppC j pp0))) j j pb0 j (by cases x10.1<;>kernel_rfl) j)<|q (oMvT j j)<|q (oEx j j j)<|q (oEx j j j)<|q (oAsI j j)<|q (oAsI j j)<|nl)<|us<|gs<|gs<|g0 j j (q (oMv j j)<|q (oBi j j j j)<|nl)<|us<|gc h j iNe (fun hc1 h=>?_) fun hc1 h=>?_
 ·refine gs<|g0 j j (q (oMv j j)<|q (oAsI j j)<|q (oAsI j j)<|nl)<|us<|Go.ret (Unw.ret ?_)
  cases h
  exact fr rF37 j
 ·refine Go.skip<|us<|gs<|?_
  revert h
  cases x10.1 with
  | none=>
   intro h
   cases h
  | some ohc2=>
   intro h
   refine g0 j j (q (oMv j j)<|q (oNl j j j)<|q (oFA (r':=.im 0 _) j fF184_4 j j)<|q (oLd (cs:=[.im 0 _]) j tF2 j j)<|q (oAsI j j)<|q (oAsI j j)<|nl)<|us<|Go.ret (Unw.ret ?_)
   cases h
   exact fr rF37 j
theorem L_impl_within {n_0:Int} {low_1:Int} {high_2:Int} {r:Bool} (h:impl_within n_0 low_1 high_2=some r):FX 98 [.im 2 false [I n_0],.im 2 false [I low_1],.im 2 false [I high_2]] (B0 [(false,[.im 0 (V r)])]):=by
 unfold impl_within at h
 refine gn 15 Try.func98 rfl ?_
 refine gs<|g0 j j (q (oAsI j j)<|nl)<|us<|gs<|gX c98 j j j (mk [(6,bv ((decide (n_0≥low_1))&&(decide (n_0≤high_2))))] []) ?_ ?_
 ·refine xq (oMv j j)<|xq (oMv j j)<|xq (oBi j j j j)<|xq (oMv j j)<|?_
  by_cases hc1:n_0≥low_1
  ·exact xqT rfl rfl (iDec.2 hc1) (oMv rfl rfl)<|xqT rfl rfl (iDec.2 hc1) (oMv rfl rfl)<|xqT rfl rfl (iDec.2 hc1) (oBi rfl rfl rfl rfl)<|xq (oPkT rfl rfl (iDec.2 hc1) rfl)<|xq (oAsI rfl rfl)<|xn (Eq.trans (b:=(fun t_6_m1:Bool=>mk [(6,bv t_6_m1)] []) (decide (n_0≤high_2))) (by kernel_rfl) (congrArg (fun t_6_m1:Bool=>mk [(6,bv t_6_m1)] []) (by first | rfl | (simp [(iDec.2 hc1)];done) | (simp [(iDec.2 hc1)];omega))))
  ·exact xsgF rfl rfl (byF iDec hc1) rfl<|xsgF rfl rfl (byF iDec hc1) rfl<|xsgF rfl rfl (byF iDec hc1) rfl<|xq (oPkF rfl rfl (byF iDec hc1) rfl)<|xq (oAsI rfl rfl)<|xn (Eq.trans (b:=(fun t_6_m1:Bool=>mk [(6,bv t_6_m1)] []) false) (by kernel_rfl) (congrArg (fun t_6_m1:Bool=>mk [(6,bv t_6_m1)] []) (by first | rfl | (simp [(byF iDec hc1)];done) | (simp [(byF iDec hc1)];omega))))
 ·refine us<|Go.ret (Unw.ret ?_)
  cases h
  exact fr rF98 j
theorem L_slices_Index_impl_Point_impl_Point {s_0:(List S_Point)} {v_1:S_Point} {r:Int} (h:slices_Index_impl_Point_impl_Point s_0 v_1=some r):FX 275 [.im 2 false [W 2 e_S_Point s_0],.im 2 true (u_S_Point v_1)] (B0 [(false,[.im 0 (I r)])]):=by
 unfold slices_Index_impl_Point_impl_Point at h
 refine gn 19 Try.func275 rfl ?_
 refine gs<|g0 j j (q (oBx j tF264 j (tkI (tkI tk0)))<|q (oAsI j j)<|nl)<|us<|gs<|gs<|g0 j j (q (oMv j j)<|q (oLnI j j uF23 j)<|q (oMv j j)<|nl)<|us<|Go.block<|?_
 obtain ⟨o,hl,h⟩:=bs h
 refine gl c275 j _ (fun (t_8_l2:Int)=>mk [(0,D 2 (W 2 e_S_Point s_0)),(3,M 3),(7,iv (s_0.length:Int)),(8,iv t_8_l2)] [(3,Oa (G 0 (u_S_Point v_1)))]) (fun (o:(Unit ⊕ Int)) (p:Ex×St)=>match o with | (.inl _)=>p.1= .exit 0∧p.2.norm ([],[])=mk [] [] | (.inr r2)=>p.1= .ret∧fin Try.prog cfg 275 Try.f275 [.im 2 false [W 2 e_S_Point s_0],.im 2 true (u_S_Point v_1)] p.2=some (B0 [(false,[.im 0 (I r2)])])) hl (by kernel_rfl) ?_ ?_ ?_
 ·intro o p hp e
  rcases o with u | r2<;>exact nomatch (hp.1.symm.trans e)
 ·rintro t_8_l2 o h
  unfold slices_Index_impl_Point_impl_Point_l2 at h
  refine gs<|g0 j j (q (oBi j j j j)<|nl)<|us<|gs<|gc h j iDec (fun hc5 h=>?_) fun hc5 h=>?_
  ·refine Go.skip<|us<|gs<|Go.block<|gs<|g0 j j (q (oMv j j)<|q (oAsI j j)<|nl)<|us<|gs<|?_
   obtain ⟨x14,hx14,h⟩:=bs h
   refine gd c275 j j j j (mk [(0,D 2 (W 2 e_S_Point s_0)),(3,M 3),(5,iv t_8_l2),(7,iv (s_0.length:Int)),(8,iv t_8_l2),(16,bv ((v_1.X==x14.X)&&(v_1.Y==x14.Y)))] [(3,Oa (G 0 (u_S_Point v_1)))]) (t j j (oLd (cs:=[.im 0 _,.im 0 _]) j tF264 j j)<|t j j (oMv j j)<|t j j (oMv j j)<|t j j (oIAI j hx14 sF23 j j)<|t j j (oLd (cs:=[.im 2 _,.im 2 _]) j tF264 j j)<|t j j (oBa j (qEF264 v_1.X v_1.Y x14.X x14.Y) j j j j)<|sD (by kernel_rfl))<|us<|gc h j (iAnd iEq iEq) (fun hc6 h=>?_) fun hc6 h=>?_
   ·refine gs<|g0 j j (q (oMv j j)<|q (oAsI j j)<|nl)<|us<|Go.ret (Unw.ret ?_)
    cases h
    exact ⟨j,(fo rF275 j)⟩
   ·refine Go.skip<|Unw.blk<|us<|g0 j j (q (oBi j j j j)<|q (oMv j j)<|nl)<|Unw.nil<|?_
    cases h
    exact ⟨j,(by kernel_rfl)⟩
  ·refine Go.exit<|ux<|Unw.nil<|?_
   cases h
   exact ⟨j,(by kernel_rfl)⟩
 ·rintro ⟨e,st⟩ hp
  rcases o with u | r2
  ·dsimp only at h
   obtain ⟨he,hst⟩:=hp
   obtain rfl:e= .exit 0:=he
   refine Unw.blkx<|us<|gs<|g2 c275 j j hst (q (oAsI j j)<|nl)<|us<|Go.ret (Unw.ret ?_)
   cases h
   exact fr rF275 j
  ·dsimp only at h
   obtain ⟨he,hfin⟩:=hp
   obtain rfl:e= .ret:=he
   cases h
   exact Unw.ret (Fin_ret hfin)
theorem L_slices_Contains_impl_Point_impl_Point {s_0:(List S_Point)} {v_1:S_Point} {r:Bool} (h:slices_Contains_impl_Point_impl_Point s_0 v_1=some r):FX 178 [.im 2 false [W 2 e_S_Point s_0],.im 2 true (u_S_Point v_1)] (B0 [(false,[.im 0 (V r)])]):=by
 unfold slices_Contains_impl_Point_impl_Point at h
 refine gn 9 Try.func178 rfl ?_
 refine gs<|g0 j j (q (oBx j tF264 j (tkI (tkI tk0)))<|q (oAsI j j)<|nl)<|us<|gs<|?_
 obtain ⟨x7,hx7,h⟩:=bs h
 refine g0 j j (q (oMv j j)<|q (oLd (cs:=[.im 0 _,.im 0 _]) j tF264 j j)<|q (oCa (xs:=[.v false [.im 2 _],.v true [.im 0 _,.im 0 _]]) (vs:=[(false,[.im 0 _])]) (v:=.v false [.im 0 _]) (L_slices_Index_impl_Point_impl_Point hx7) (.inl j) j kF275_23_264 j (ppC j (ppC j pp0)) j j pb0 j j j)<|q (oBi j j j j)<|q (oAsI j j)<|nl)<|us<|Go.ret (Unw.ret ?_)
 cases h
 exact fr rF178 j
end
end Go.Proofs.Ytambonpepalofaa
