/- The machine answers, at each function of the program that is reached, what its plain function answers. Conditions: none. -/
import Derived.Test.YtambonpepalofaaProg
import Derived.KernelRfl
import Derived.Test.YtambonpepalofaaSimRs
import Derived.Test.YtambonpepalofaaTcsT
namespace Go.Proofs.Ytambonpepalofaa
open Go Go.Sim Go.Pw Go.Proofs
set_option linter.unusedVariables false
set_option linter.unusedSimpArgs false
set_option maxRecDepth 100000
set_option maxHeartbeats 4000000
noncomputable section
noncomputable abbrev u_S_Point (x:S_Point):List AV:=[I x.X,I x.Y]
noncomputable def e_S_Point (x:S_Point):AV:= .agg (u_S_Point x)
noncomputable abbrev u_S_Face (x:S_Face):List AV:=[Y x.Name,W 1 eI x.Ring]
noncomputable def e_S_Face (x:S_Face):AV:= .agg (u_S_Face x)
noncomputable abbrev u_S_Drawing (x:S_Drawing):List AV:=[I x.Width,I x.Height,W 2 e_S_Point x.Points,W 2 e_S_Face x.Faces]
noncomputable def e_S_Drawing (x:S_Drawing):AV:= .agg (u_S_Drawing x)
noncomputable abbrev u_S_Veneer (x:S_Veneer):List AV:=[Y x.Species,I x.Shade,I x.Grain]
noncomputable def e_S_Veneer (x:S_Veneer):AV:= .agg (u_S_Veneer x)
noncomputable abbrev u_S_l15Search (x:S_l15Search):List AV:=[W 1 (eL 1 eI) x.pairs,I x.faces,W 3 e_S_Veneer x.sheets,I x.least,W 1 eI x.shifts,V x.first,W 1 eI x.best,I x.count,I x.nodes,I x.budget]
noncomputable def e_S_l15Search (x:S_l15Search):AV:= .agg (u_S_l15Search x)
noncomputable abbrev u_S_shiftSearch (x:S_shiftSearch):List AV:=[W 1 (eL 1 eI) x.near,W 1 eI x.contrasts,I x.least,I x.left,I x.found,W 1 eI x.first,V x.one]
noncomputable def e_S_shiftSearch (x:S_shiftSearch):AV:= .agg (u_S_shiftSearch x)
noncomputable abbrev u_Ar2_Int (x:Ar2_Int):List AV:=[I x.e0,I x.e1]
noncomputable def e_Ar2_Int (x:Ar2_Int):AV:= .agg (u_Ar2_Int x)
noncomputable def fc10:FCfg:={par:=[.cst false,.cst false,.cst false,.cst false],inn:=[(10,some ([1,2,3,4,10,11,12],[4,12]))],out:=[(12,some ([1,4,12,13,55],[4,12,13])),(14,some ([1,13,60],[13]))],loopK:=[],frz:=[],sch:=[(14,.first 0 [3,4] [1,2]<| .first 1 [2,3,4] []<| .fork 2 (.fork 3 (.first 4 [] []<| .done) (.stop)) (.stop))]}
noncomputable def fc36:FCfg:={par:=[.cst false,.cst false],inn:=[],out:=[],loopK:=[],frz:=[],sch:=[]}
noncomputable def fc38:FCfg:={par:=[.cst false],inn:=[(3,some ([1,2,3],[1,2,3])),(4,some ([1,2,3],[1,2,3])),(5,some ([1,2,3],[1,2,3])),(6,some ([2,3],[2,3]))],out:=[],loopK:=[],frz:=[],sch:=[]}
noncomputable def fc39:FCfg:={par:=[.cst false,.cst false],inn:=[],out:=[],loopK:=[],frz:=[],sch:=[]}
noncomputable def fc41:FCfg:={par:=[.cst false,.cst false],inn:=[(8,some ([],[]))],out:=[(6,some ([0,1,5,25],[]))],loopK:=[(4,([0,1,5],[]))],frz:=[],sch:=[(6,.first 0 [2,3,8] [1,4,5,6,7]<| .first 1 [2,3,8] [4,5,6,7]<| .first 2 [3,8] [4,5,6,7]<| .first 3 [8] [4,5,6,7]<| .first 4 [6,7,8] [5]<| .first 5 [6,7,8] []<| .first 6 [7,8] []<| .first 7 [8] []<| .first 8 [] []<| .done)]}
noncomputable def fc59:FCfg:={par:=[.cst false,.cst false],inn:=[(10,some ([1],[]))],out:=[],loopK:=[(5,([0,1,5],[]))],frz:=[],sch:=[]}
noncomputable def fc60:FCfg:={par:=[.cst false,.cst false,.cst false,.cst false],inn:=[(1,some ([1,2,3,4],[]))],out:=[],loopK:=[],frz:=[4],sch:=[]}
noncomputable def fc61:FCfg:={par:=[.cst false],inn:=[(4,some ([0,3,4],[3])),(6,some ([3],[3]))],out:=[],loopK:=[(3,([0,3,4],[3]))],frz:=[],sch:=[]}
noncomputable def fc62:FCfg:={par:=[.cst false,.cst false,.cst false,.cst false],inn:=[],out:=[],loopK:=[],frz:=[],sch:=[]}
noncomputable def fc63:FCfg:={par:=[.cst false,.cst false],inn:=[(8,some ([],[]))],out:=[(6,some ([0,1,5,26],[]))],loopK:=[(4,([0,1,5],[]))],frz:=[],sch:=[(6,.first 0 [2,3,8,9] [1,4,5,6,7]<| .first 1 [2,3,8,9] [4,5,6,7]<| .first 2 [3,8,9] [4,5,6,7]<| .first 3 [8,9] [4,5,6,7]<| .first 4 [6,7,8,9] [5]<| .first 5 [6,7,8,9] []<| .first 6 [7,8,9] []<| .first 7 [8,9] []<| .fork 8 (.first 9 [] []<| .done) (.stop))]}
noncomputable def fc84:FCfg:={par:=[.cut 4],inn:=[(11,some ([],[]))],out:=[(1,some ([0,32],[])),(6,some ([0,3,75],[])),(9,some ([0,3,95],[]))],loopK:=[(4,([0,3],[]))],frz:=[],sch:=[(6,.first 0 (rg [1,4,5,34]) [4]<| .first 1 (rg [2,4,5,34]) [4]<| .first 2 (rg [3,4,5,34]) [4]<| .first 3 (rg [5,34]) [4]<| .first 4 (rg [5,34]) []<| .first 5 (rg [6,34]) []<| .first 6 (rg [7,34]) []<| .first 7 (rg [8,34]) []<| .fork 8 (.first 9 (rg [10,34]) []<| .first 10 (rg [11,34]) []<| .first 11 (rg [12,34]) []<| .first 12 (rg [13,34]) []<| .first 13 (rg [14,34]) []<| .first 14 [15,16,17,20,21,22,31,32,33] (rg [18,20,23,31])<| .first 15 [16,17,20,21,22,31,32,33] (rg [18,20,23,31])<| .first 16 [17,20,21,22,31,32,33] (rg [18,20,23,31])<| .first 17 [20,21,22,31,32,33] (rg [18,20,23,31])<| .first 18 [19,20,21,22,31,32,33] (rg [23,31])<| .first 19 [20,21,22,31,32,33] (rg [23,31])<| .first 20 [21,22,31,32,33] (rg [23,31])<| .first 21 [22,31,32,33] (rg [23,31])<| .first 22 [31,32,33] (rg [23,31])<| .first 23 (rg [24,27,28,34]) [27]<| .first 24 (rg [25,27,28,34]) [27]<| .first 25 [26,28,29,30,31,32,33] [27]<| .first 26 (rg [28,34]) [27]<| .first 27 (rg [28,34]) []<| .first 28 [29,30,31,32,33] []<| .first 29 [30,31,32,33] []<| .first 30 [31,32,33] []<| .first 31 [32,33] []<| .first 32 [33] []<| .first 33 [] []<| .done) (.stop))]}
noncomputable def fc87:FCfg:={par:=[.cst false],inn:=[(6,some ([1,3,4,32,33,34],[1,4])),(9,some ([1],[1])),(12,some ([1,5,6,63,64,65],[1,6])),(18,some ([],[]))],out:=[(1,some ([1,30],[1])),(6,some ([1,32,33,34,60],[1])),(12,some ([1,6,63,64,65,89],[1,6])),(15,some ([1,63,64,65,104],[1]))],loopK:=[(4,([1,32,33,34],[1])),(10,([1,63,64,65],[1]))],frz:=[],sch:=[(6,.first 0 (rg [1,2,4,22]) [2,3]<| .first 1 (rg [4,22]) [2,3]<| .first 2 (rg [3,22]) []<| .first 3 (rg [4,22]) []<| .fork 4 (.first 5 (rg [6,22]) []<| .first 6 (rg [7,22]) []<| .first 7 (rg [8,9,11,22]) [9,10]<| .first 8 (rg [11,22]) [9,10]<| .first 9 (rg [10,22]) []<| .first 10 (rg [11,22]) []<| .fork 11 (.first 12 (rg [13,22]) []<| .first 13 (rg [14,22]) []<| .first 14 (rg [15,22]) []<| .first 15 [16,18,20,21] [17,19]<| .first 16 [18,20,21] [17,19]<| .first 17 [18,20,21] [19]<| .first 19 [20,21] [18]<| .fork 18 (.fork 20 (.first 21 [] []<| .done) (.stop)) (.stop)) (.stop)) (.stop)),(12,.first 0 (rg [1,20]) []<| .first 1 (rg [2,20]) []<| .fork 2 (.first 3 (rg [4,20]) []<| .first 4 (rg [5,20]) []<| .first 5 (rg [6,20]) []<| .first 6 (rg [7,20]) []<| .first 7 (rg [8,20]) []<| .first 8 [9,12,13,14,17,18,19] [10,11,15,16]<| .first 9 [12,13,14,17,18,19] [10,11,15,16]<| .first 10 [11,12,13,14,17,18,19] [15,16]<| .first 11 [12,13,14,17,18,19] [15,16]<| .first 12 [13,14,17,18,19] [15,16]<| .first 13 [14,17,18,19] [15,16]<| .first 14 [17,18,19] [15,16]<| .first 15 [16,17,18,19] []<| .first 16 [17,18,19] []<| .first 17 [18,19] []<| .first 18 [19] []<| .first 19 [] []<| .done) (.stop))]}
noncomputable def fc94:FCfg:={par:=[.cst false,.cst false,.cst false],inn:=[],out:=[(1,some ([6],[]))],loopK:=[],frz:=[],sch:=[]}
noncomputable def fc98:FCfg:={par:=[.cst false,.cst false,.cst false],inn:=[],out:=[(1,some ([6],[]))],loopK:=[],frz:=[],sch:=[]}
noncomputable def fc107:FCfg:={par:=[.cst false],inn:=[(2,some ([1,3],[1,3])),(5,some ([3,5,11,12,13],[3,5])),(7,some ([3],[3])),(14,some ([3,6,7,8,28,29,33,34],[3,6,8])),(16,some ([3,6,7,28,29,33,34],[3,6])),(17,some ([3,6,28,29],[3,6])),(18,some ([6],[6]))],out:=[(5,some ([3,11,12,13],[3])),(14,some ([3,6,7,8,28,29,33,34,47],[3,6,8])),(15,some ([3,6,7,28,29,33,34],[3,6]))],loopK:=[(3,([3,11,12,13],[3])),(9,([3,6,28,29],[3,6])),(12,([3,6,7,28,29,33,34],[3,6]))],frz:=[2],sch:=[(5,.first 1 [2,3,4,5,6] [0]<| .first 2 [3,4,5,6] [0]<| .first 0 [5,6] [3,4]<| .fork 3 (.fork 4 (.fork 5 (.fork 6 (.done) (.stop)) (.stop)) (.stop)) (.stop)),(15,.first 0 [9,10] (rg [1,9])<| .first 1 [9,10] (rg [2,9])<| .first 2 [4,5,8,9,10] [3,6,7]<| .first 3 [4,5,8,9,10] [6,7]<| .first 6 [7,8,9,10] [4,5]<| .first 4 [5,8,9,10] [7]<| .first 5 [8,9,10] [7]<| .fork 7 (.fork 8 (.first 9 [10] []<| .fork 10 (.done) (.stop)) (.stop)) (.stop))]}
noncomputable def fc110:FCfg:={par:=[.cst false,.cst false],inn:=[],out:=[],loopK:=[],frz:=[],sch:=[]}
noncomputable def fc111:FCfg:={par:=[.cst false,.cst false],inn:=[(10,some ([1],[]))],out:=[],loopK:=[(5,([0,1,5],[]))],frz:=[],sch:=[]}
noncomputable def fc113:FCfg:={par:=[.cst false],inn:=[(4,some ([0,3,4],[3])),(6,some ([3],[3]))],out:=[],loopK:=[(3,([0,3,4],[3]))],frz:=[],sch:=[]}
noncomputable def fc114:FCfg:={par:=[.cst false],inn:=[(4,some ([0,3,4],[3])),(6,some ([3],[3]))],out:=[],loopK:=[(3,([0,3,4],[3]))],frz:=[],sch:=[]}
noncomputable def fc115:FCfg:={par:=[.cst false,.cst false],inn:=[(8,some ([],[]))],out:=[(6,some ([0,1,5,26],[]))],loopK:=[(4,([0,1,5],[]))],frz:=[],sch:=[(6,.first 0 [2,3,8,9] [1,4,5,6,7]<| .first 1 [2,3,8,9] [4,5,6,7]<| .first 2 [3,8,9] [4,5,6,7]<| .first 3 [8,9] [4,5,6,7]<| .first 4 [6,7,8,9] [5]<| .first 5 [6,7,8,9] []<| .first 6 [7,8,9] []<| .first 7 [8,9] []<| .fork 8 (.first 9 [] []<| .done) (.stop))]}
noncomputable def fc116:FCfg:={par:=[.cst false,.cst false],inn:=[(8,some ([],[]))],out:=[(6,some ([0,1,5,26],[]))],loopK:=[(4,([0,1,5],[]))],frz:=[],sch:=[(6,.first 0 [2,3,8,9] [1,4,5,6,7]<| .first 1 [2,3,8,9] [4,5,6,7]<| .first 2 [3,8,9] [4,5,6,7]<| .first 3 [8,9] [4,5,6,7]<| .first 4 [6,7,8,9] [5]<| .first 5 [6,7,8,9] []<| .first 6 [7,8,9] []<| .first 7 [8,9] []<| .fork 8 (.first 9 [] []<| .done) (.stop))]}
noncomputable def fc117:FCfg:={par:=[.cst false],inn:=[],out:=[],loopK:=[],frz:=[],sch:=[]}
noncomputable def fc131:FCfg:={par:=[.cst false,.cst false],inn:=[],out:=[],loopK:=[],frz:=[],sch:=[]}
noncomputable def fc134:FCfg:={par:=[.cst false],inn:=[(4,some ([0,3,4],[3])),(6,some ([3],[3]))],out:=[],loopK:=[(3,([0,3,4],[3]))],frz:=[],sch:=[]}
noncomputable def fc135:FCfg:={par:=[.cst false,.cst false],inn:=[],out:=[],loopK:=[],frz:=[],sch:=[]}
noncomputable def fc136:FCfg:={par:=[.cut 4,.cst false,.cst false,.cst false,.cst false],inn:=[(7,some ([3,12],[41]))],out:=[(1,some ([0,1,2,3,4,20],[])),(3,some ([0,1,2,3,4,28],[])),(5,some ([3,12],[41]))],loopK:=[],frz:=[],sch:=[(5,.first 0 [1,11,12,13] (rg [2,11])<| .first 2 [3,4,5,6,11,12,13] [1,7,8,9,10]<| .first 3 [4,5,6,11,12,13] [1,7,8,9,10]<| .first 4 [5,6,11,12,13] [1,7,8,9,10]<| .first 5 [6,11,12,13] [1,7,8,9,10]<| .first 6 [11,12,13] [1,7,8,9,10]<| .first 7 [11,12,13] [1,8,9,10]<| .first 8 [11,12,13] [1,9,10]<| .first 9 [11,12,13] [1,10]<| .first 10 [11,12,13] [1]<| .fork 1 (.fork 11 (.fork 12 (.fork 13 (.done) (.stop)) (.stop)) (.stop)) (.stop))]}
noncomputable def fc137:FCfg:={par:=[.cst false],inn:=[(3,some ([1,2,3],[1,2,3])),(4,some ([1,2,3],[1,2,3])),(5,some ([2,3],[2,3]))],out:=[],loopK:=[],frz:=[],sch:=[]}
noncomputable def fc138:FCfg:={par:=[.cst false,.cst false,.cst false,.cst false,.cst false],inn:=[(6,some ([12],[39])),(7,some ([12],[39]))],out:=[(1,some ([1,2,3,4,5,13],[5])),(3,some ([1,2,3,4,5,22],[5]))],loopK:=[],frz:=[],sch:=[]}
noncomputable def fc139:FCfg:={par:=[.cst false,.cst false],inn:=[],out:=[],loopK:=[],frz:=[],sch:=[]}
noncomputable def fc142:FCfg:={par:=[.cst false],inn:=[(9,some ([0,3,4,5,6,7,11,12,15,16,17],[3,7])),(12,some ([0,3,4,5,11,12,15,16,17],[3])),(13,some ([0,3,5,11,12],[3])),(15,some ([3],[3]))],out:=[(9,some ([0,3,4,5,8,11,12,15,16,17],[3])),(10,some ([0,3,4,5,8,11,12,15,16,17,39],[3]))],loopK:=[(3,([0,3,11,12],[3])),(7,([0,3,4,5,11,12,15,16,17],[3]))],frz:=[],sch:=[(9,.first 0 [10,11] (rg [1,10])<| .first 1 [8,9,10,11] [2,3,4,5,6,7]<| .first 2 [4,7,8,9,10,11] [3,5,6]<| .first 3 [4,7,8,9,10,11] [5,6]<| .first 4 [7,8,9,10,11] [5,6]<| .first 5 [6,7,8,9,10,11] []<| .first 6 [7,8,9,10,11] []<| .first 7 [8,9,10,11] []<| .first 8 [9,10,11] []<| .first 9 [10,11] []<| .fork 10 (.fork 11 (.done) (.stop)) (.stop))]}
noncomputable def fc171:FCfg:={par:=[.cut 4],inn:=[(5,some ([0,3],[])),(13,some ([],[]))],out:=[(6,some ([0,3,49],[])),(11,some ([0,3,4,69],[]))],loopK:=[(4,([0,3],[])),(9,([0,3,4],[]))],frz:=[],sch:=[(6,.first 0 (rg [1,4,5,8,12,30]) [4,8,9,10,11]<| .first 1 (rg [2,4,5,8,12,30]) [4,8,9,10,11]<| .first 2 (rg [3,4,5,8,12,30]) [4,8,9,10,11]<| .first 3 (rg [5,8,12,30]) [4,8,9,10,11]<| .first 4 (rg [5,8,12,30]) [8,9,10,11]<| .first 5 (rg [6,8,12,30]) [8,9,10,11]<| .first 6 (rg [7,8,12,30]) [8,9,10,11]<| .first 7 (rg [12,30]) [8,9,10,11]<| .first 8 (rg [9,30]) []<| .first 9 (rg [10,30]) []<| .first 10 (rg [11,30]) []<| .first 11 (rg [12,30]) []<| .fork 12 (.first 13 (rg [14,30]) []<| .first 14 (rg [15,30]) []<| .first 15 [16,17,18,20,21,22,27,28,29] [19,23,24,25,26]<| .first 16 [17,18,20,21,22,27,28,29] [19,23,24,25,26]<| .first 17 [18,20,21,22,27,28,29] [19,23,24,25,26]<| .first 18 [20,21,22,27,28,29] [19,23,24,25,26]<| .first 19 [20,21,22,27,28,29] [23,24,25,26]<| .first 20 [21,22,27,28,29] [23,24,25,26]<| .first 21 [22,27,28,29] [23,24,25,26]<| .first 22 [27,28,29] [23,24,25,26]<| .first 23 (rg [24,30]) []<| .first 24 [25,26,27,28,29] []<| .first 25 [26,27,28,29] []<| .first 26 [27,28,29] []<| .fork 27 (.first 28 [29] []<| .first 29 [] []<| .done) (.stop)) (.stop)),(11,.first 0 [1,2,3,5,6,14] (rg [4,5,7,14])<| .first 1 [2,3,5,6,14] (rg [4,5,7,14])<| .first 2 [3,5,6,14] (rg [4,5,7,14])<| .first 3 [5,6,14] (rg [4,5,7,14])<| .first 4 [5,6,14] (rg [7,14])<| .first 5 [6,14] (rg [7,14])<| .first 6 [14] (rg [7,14])<| .first 7 [8,9,10,12,13,14] [11]<| .first 8 [9,10,12,13,14] [11]<| .first 9 [10,12,13,14] [11]<| .first 10 [12,13,14] [11]<| .first 11 [12,13,14] []<| .first 12 [13,14] []<| .first 13 [14] []<| .first 14 [] []<| .done)]}
noncomputable def fc172:FCfg:={par:=[.cst false],inn:=[(8,some ([],[]))],out:=[(1,some ([0,16],[])),(6,some ([0,3,34],[]))],loopK:=[(4,([0,3],[]))],frz:=[],sch:=[]}
noncomputable def fc173:FCfg:={par:=[.cut 4,.cst false],inn:=[(8,some ([6],[6]))],out:=[(5,some ([0,1,6,7,26],[6])),(7,some ([0,1,6,7],[6]))],loopK:=[(3,([0,1,6,7],[6]))],frz:=[],sch:=[(5,.first 0 [2,3,10,11] [1,4,5,6,7,8,9]<| .first 1 [2,3,10,11] [4,5,6,7,8,9]<| .first 2 [3,10,11] [4,5,6,7,8,9]<| .first 3 [10,11] [4,5,6,7,8,9]<| .first 4 (rg [5,12]) []<| .first 5 [6,7,8,9,10,11] []<| .first 6 [7,8,9,10,11] []<| .first 7 [8,9,10,11] []<| .first 8 [9,10,11] []<| .first 9 [10,11] []<| .fork 10 (.first 11 [] []<| .done) (.stop)),(7,.first 0 [12,13] (rg [1,12])<| .first 1 (rg [2,5,9,14]) [5,6,7,8]<| .first 2 [3,4,9,10,11,12,13] [5,6,7,8]<| .first 3 [4,9,10,11,12,13] [5,6,7,8]<| .first 4 [9,10,11,12,13] [5,6,7,8]<| .first 5 (rg [7,14]) [6]<| .first 6 (rg [7,14]) []<| .first 7 (rg [8,14]) []<| .first 8 [9,10,11,12,13] []<| .first 9 [10,11,12,13] []<| .first 10 [11,12,13] []<| .fork 11 (.fork 12 (.fork 13 (.done) (.stop)) (.stop)) (.stop))]}
noncomputable def fc174:FCfg:={par:=[.cst false],inn:=[(9,some ([0,3],[])),(11,some ([0,3,5],[])),(13,some ([0,3,5,6],[6])),(14,some ([0,3,5,6,7],[6,7])),(15,some ([0,3,5,6,7,8],[6,7,8])),(22,some ([0],[]))],out:=[(2,some ([0,3,17],[])),(15,some ([0,3,5,6,7,66],[6,7])),(20,some ([0,3,5,6,7,9,95],[6,7]))],loopK:=[(5,([0,3,4],[])),(10,([0,3,5],[])),(18,([0,3,5,6,7,9],[6,7]))],frz:=[],sch:=[(20,.first 0 (rg [1,2,3,4,5,22]) [2,4]<| .first 1 (rg [3,4,5,22]) [2,4]<| .first 2 (rg [3,4,5,22]) [4]<| .first 3 (rg [5,22]) [4]<| .first 4 (rg [5,22]) []<| .first 5 (rg [6,22]) []<| .first 6 (rg [7,22]) []<| .first 7 [20,21] (rg [8,20])<| .first 8 [20,21] (rg [9,20])<| .first 9 [11,12,20,21] (rg [10,11,13,20])<| .first 10 [11,12,20,21] (rg [13,20])<| .first 11 [12,20,21] (rg [13,20])<| .first 12 [20,21] (rg [13,20])<| .first 13 [18,19,20,21] [14,15,16,17]<| .first 14 [15,17,18,19,20,21] [16]<| .first 15 [17,18,19,20,21] [16]<| .first 16 [17,18,19,20,21] []<| .first 17 [18,19,20,21] []<| .first 18 [19,20,21] []<| .first 19 [20,21] []<| .fork 20 (.first 21 [] []<| .done) (.stop))]}
noncomputable def fc178:FCfg:={par:=[.cst false,.cst false],inn:=[],out:=[],loopK:=[],frz:=[],sch:=[]}
noncomputable def fc179:FCfg:={par:=[.cst false],inn:=[(8,some ([],[]))],out:=[(1,some ([0,21],[])),(6,some ([0,3,49],[]))],loopK:=[(4,([0,3],[]))],frz:=[],sch:=[]}
noncomputable def fc180:FCfg:={par:=[.cst false,.cst false],inn:=[(9,some ([6],[6]))],out:=[],loopK:=[(3,([0,6,10,11,12],[6]))],frz:=[],sch:=[]}
noncomputable def fc181:FCfg:={par:=[.cst false],inn:=[(15,some ([0,3,23,24],[])),(16,some ([0],[]))],out:=[(2,some ([0,3,21],[])),(7,some ([0,3,4,5,6,7,23,24],[5,6,7])),(8,some ([0,3,4,5,6,23,24,59],[5,6])),(13,some ([0,3,4,5,6,8,23,24,88],[5,6]))],loopK:=[(5,([0,3,23,24],[])),(11,([0,3,4,5,6,8,23,24],[5,6]))],frz:=[],sch:=[(7,.first 0 [2,3,21,22,23] (rg [1,2,4,21])<| .first 1 [2,3,21,22,23] (rg [4,21])<| .first 2 [3,21,22,23] (rg [4,21])<| .first 3 [21,22,23] (rg [4,21])<| .first 4 [9,10,22,23] (rg [5,9,11,22])<| .first 5 [6,8,9,10,22,23] (rg [7,8,11,22])<| .first 6 [8,9,10,22,23] (rg [7,8,11,22])<| .first 7 [8,9,10,22,23] (rg [11,22])<| .first 8 [9,10,22,23] (rg [11,22])<| .first 9 [10,22,23] (rg [11,22])<| .first 10 [22,23] (rg [11,22])<| .first 11 [16,17,23] (rg [12,16,18,23])<| .first 12 [13,15,16,17,23] [14,18,19,20,21,22]<| .first 13 [15,16,17,23] [14,18,19,20,21,22]<| .first 14 [15,16,17,23] [18,19,20,21,22]<| .first 15 [16,17,23] [18,19,20,21,22]<| .first 16 [17,23] [18,19,20,21,22]<| .first 17 [23] [18,19,20,21,22]<| .fork 18 (.fork 19 (.fork 20 (.fork 21 (.fork 22 (.fork 23 (.done) (.stop)) (.stop)) (.stop)) (.stop)) (.fork 20 (.fork 19 (.fork 21 (.fork 22 (.fork 23 (.done) (.stop)) (.stop)) (.stop)) (.stop)) (.stop))) (.fork 19 (.fork 18 (.fork 20 (.fork 21 (.fork 22 (.fork 23 (.done) (.stop)) (.stop)) (.stop)) (.stop)) (.fork 20 (.fork 18 (.fork 21 (.fork 22 (.fork 23 (.done) (.stop)) (.stop)) (.stop)) (.stop)) (.stop))) (.fork 20 (.fork 18 (.fork 19 (.fork 21 (.fork 22 (.fork 23 (.done) (.stop)) (.stop)) (.stop)) (.stop)) (.fork 19 (.fork 18 (.fork 21 (.fork 22 (.fork 23 (.done) (.stop)) (.stop)) (.stop)) (.stop)) (.stop))) (.stop)))),(13,.first 0 (rg [1,2,3,4,5,22]) [2,4]<| .first 1 (rg [3,4,5,22]) [2,4]<| .first 2 (rg [3,4,5,22]) [4]<| .first 3 (rg [5,22]) [4]<| .first 4 (rg [5,22]) []<| .first 5 (rg [6,22]) []<| .first 6 (rg [7,22]) []<| .first 7 [20,21] (rg [8,20])<| .first 8 [20,21] (rg [9,20])<| .first 9 [11,12,20,21] (rg [10,11,13,20])<| .first 10 [11,12,20,21] (rg [13,20])<| .first 11 [12,20,21] (rg [13,20])<| .first 12 [20,21] (rg [13,20])<| .first 13 [18,19,20,21] [14,15,16,17]<| .first 14 [15,17,18,19,20,21] [16]<| .first 15 [17,18,19,20,21] [16]<| .first 16 [17,18,19,20,21] []<| .first 17 [18,19,20,21] []<| .first 18 [19,20,21] []<| .first 19 [20,21] []<| .fork 20 (.first 21 [] []<| .done) (.stop))]}
noncomputable def fc196:FCfg:={par:=[.cst false],inn:=[(8,some ([3],[3]))],out:=[],loopK:=[(3,([0,3,8,9,10],[3]))],frz:=[],sch:=[]}
noncomputable def fc197:FCfg:={par:=[.cst false,.cst false],inn:=[],out:=[],loopK:=[],frz:=[],sch:=[]}
noncomputable def fc198:FCfg:={par:=[.cst false],inn:=[],out:=[(1,some ([4],[]))],loopK:=[],frz:=[],sch:=[(1,.first 0 [2,3,5,6] [1,4]<| .first 1 [2,3,5,6] [4]<| .first 2 [3,5,6] [4]<| .first 3 [5,6] [4]<| .first 4 [5,6] []<| .fork 5 (.fork 6 (.done) (.stop)) (.stop))]}
noncomputable def fc199:FCfg:={par:=[.cst false,.cst false],inn:=[],out:=[],loopK:=[],frz:=[],sch:=[]}
noncomputable def fc201:FCfg:={par:=[.cst false,.cst false],inn:=[],out:=[],loopK:=[],frz:=[],sch:=[]}
noncomputable def fc204:FCfg:={par:=[.cst false],inn:=[(3,some ([1,2,3],[1,2,3])),(4,some ([2,3],[2,3]))],out:=[],loopK:=[],frz:=[],sch:=[]}
noncomputable def fc205:FCfg:={par:=[.cst false],inn:=[(3,some ([1,2,3],[1,2,3])),(4,some ([2,3],[2,3]))],out:=[],loopK:=[],frz:=[],sch:=[]}
noncomputable def fc206:FCfg:={par:=[.cst false,.cst false],inn:=[],out:=[],loopK:=[],frz:=[],sch:=[]}
noncomputable def fc207:FCfg:={par:=[.cst false,.cst false],inn:=[],out:=[],loopK:=[],frz:=[],sch:=[]}
noncomputable def fc218:FCfg:={par:=[.cst false,.cst false],inn:=[],out:=[],loopK:=[],frz:=[],sch:=[]}
noncomputable def fc222:FCfg:={par:=[.cst false,.cst false],inn:=[],out:=[],loopK:=[],frz:=[],sch:=[]}
noncomputable def fc223:FCfg:={par:=[.cst false],inn:=[(6,some ([0],[]))],out:=[(6,some ([2],[]))],loopK:=[(2,([0,3],[]))],frz:=[],sch:=[]}
noncomputable def fc224:FCfg:={par:=[.cut 4],inn:=[(4,some ([0,3,4],[3])),(8,some ([0,3,4,5,6],[3,5])),(11,some ([3],[3]))],out:=[],loopK:=[(3,([0,3,4],[3])),(7,([0,3,4,5,6],[3,5]))],frz:=[],sch:=[]}
noncomputable def fc225:FCfg:={par:=[.ptr [.imm,.imm,.imm,.imm,.sh,.imm,.sh,.imm,.imm,.imm]],inn:=[(2,some ([0],[0])),(6,some ([0],[0])),(8,some ([0],[0])),(13,some ([0,3],[0])),(17,some ([],[0]))],out:=[(2,some ([0,20],[0])),(4,some ([0,30],[0])),(13,some ([0,3,4],[0])),(14,some ([0,3,4],[0]))],loopK:=[(10,([0,3],[0]))],frz:=[],sch:=[(2,.first 0 [1,2,3,8] [4,5,6,7]<| .first 1 [2,3,8] [4,5,6,7]<| .first 2 [3,8] [4,5,6,7]<| .first 3 [8] [4,5,6,7]<| .first 4 [5,6,7,8] []<| .first 5 [6,7,8] []<| .first 6 [7,8] []<| .first 7 [8] []<| .first 8 [] []<| .done),(4,.first 0 [1,2,3,4,9] [5,6,7,8]<| .first 1 [2,3,4,9] [5,6,7,8]<| .first 2 [3,4,9] [5,6,7,8]<| .first 3 [4,9] [5,6,7,8]<| .first 4 [9] [5,6,7,8]<| .first 5 [6,7,8,9] []<| .first 6 [7,8,9] []<| .first 7 [8,9] []<| .first 8 [9] []<| .first 9 [] []<| .done),(14,.first 0 [12,13,14] (rg [1,12])<| .first 1 [2,3,4,11,12,13,14] [5,6,7,8,9,10]<| .first 2 [3,4,11,12,13,14] [5,6,7,8,9,10]<| .first 3 [4,11,12,13,14] [5,6,7,8,9,10]<| .first 4 [11,12,13,14] [5,6,7,8,9,10]<| .first 5 (rg [6,15]) []<| .first 6 (rg [7,15]) []<| .first 7 (rg [8,15]) []<| .first 8 (rg [9,15]) []<| .first 9 [10,11,12,13,14] []<| .first 10 [11,12,13,14] []<| .fork 11 (.first 12 [13,14] []<| .first 13 [14] []<| .fork 14 (.done) (.stop)) (.stop))]}
noncomputable def fc226:FCfg:={par:=[.cst false],inn:=[],out:=[(1,some ([2],[]))],loopK:=[],frz:=[],sch:=[]}
noncomputable def fc227:FCfg:={par:=[.ptr [.imm,.imm,.imm,.imm,.imm,.sh,.imm],.mv],inn:=[(2,some ([0,1],[0,1])),(8,some ([0],[0])),(9,some ([0],[0])),(19,some ([0,1,5,6,7,8,57,58],[0,1])),(22,some ([],[0]))],out:=[(4,some ([0,1,5,6],[0,1])),(17,some ([0,1,5,6,7,8,57,58,67,68,69],[0,1])),(19,some ([0,1,5,6,57,58,112],[0,1]))],loopK:=[(11,([0,1,5,6,57,58],[0,1])),(15,([0,1,5,6,7,8,57,58,67,68,69],[0,1]))],frz:=[],sch:=[(4,.first 0 [1,7,8] [2,3,4,5,6]<| .first 1 [7,8] [2,3,4,5,6]<| .first 2 [3,4,5,6,8] [7]<| .first 3 [4,5,6,8] [7]<| .first 4 [5,6,8] [7]<| .first 5 [6,8] [7]<| .first 6 [8] [7]<| .fork 7 (.fork 8 (.done) (.stop)) (.stop)),(17,.first 0 (rg [1,30]) []<| .first 1 (rg [2,30]) []<| .first 2 (rg [4,30]) [3]<| .first 3 (rg [4,30]) []<| .first 4 (rg [5,30]) []<| .first 5 (rg [6,30]) []<| .first 6 [7,8,9,20,21,26,27,28,29] (rg [10,20,22,26])<| .first 7 [8,9,20,21,26,27,28,29] (rg [10,20,22,26])<| .first 8 [9,20,21,26,27,28,29] (rg [10,20,22,26])<| .first 9 [20,21,26,27,28,29] (rg [10,20,22,26])<| .first 10 [15,17,19,20,21,26,27,28,29] [11,12,13,14,16,18,22,23,24,25]<| .first 11 [13,14,15,17,19,20,21,26,27,28,29] [12,16,18,22,23,24,25]<| .first 12 [13,14,15,17,19,20,21,26,27,28,29] [16,18,22,23,24,25]<| .first 13 [14,15,17,19,20,21,26,27,28,29] [16,18,22,23,24,25]<| .first 14 [15,17,19,20,21,26,27,28,29] [16,18,22,23,24,25]<| .first 15 [17,19,20,21,26,27,28,29] [16,18,22,23,24,25]<| .first 16 [17,19,20,21,26,27,28,29] [18,22,23,24,25]<| .first 17 [19,20,21,26,27,28,29] [18,22,23,24,25]<| .first 18 [19,20,21,26,27,28,29] [22,23,24,25]<| .first 19 [20,21,26,27,28,29] [22,23,24,25]<| .first 20 [21,26,27,28,29] [22,23,24,25]<| .first 21 [26,27,28,29] [22,23,24,25]<| .first 22 (rg [23,30]) []<| .first 23 (rg [24,30]) []<| .first 24 [25,26,27,28,29] []<| .first 25 [26,27,28,29] []<| .first 26 [27,28,29] []<| .first 27 [28,29] []<| .first 28 [29] []<| .fork 29 (.done) (.stop))]}
noncomputable def fc230:FCfg:={par:=[.cst false,.cst false],inn:=[],out:=[],loopK:=[],frz:=[],sch:=[]}
noncomputable def fc236:FCfg:={par:=[.cst false,.cst false],inn:=[],out:=[(1,some ([0,1,14],[]))],loopK:=[],frz:=[],sch:=[]}
noncomputable def fc241:FCfg:={par:=[.cst false],inn:=[],out:=[(2,some ([2],[]))],loopK:=[],frz:=[],sch:=[]}
noncomputable def fc268:FCfg:={par:=[.cst false],inn:=[],out:=[(1,some ([2],[]))],loopK:=[],frz:=[],sch:=[]}
noncomputable def fc269:FCfg:={par:=[.cst false],inn:=[],out:=[(1,some ([2],[]))],loopK:=[],frz:=[],sch:=[]}
noncomputable def fc270:FCfg:={par:=[.cst false],inn:=[],out:=[(1,some ([2],[]))],loopK:=[],frz:=[],sch:=[]}
noncomputable def fc271:FCfg:={par:=[.cst false,.cst false,.cst false],inn:=[],out:=[(1,some ([6],[]))],loopK:=[],frz:=[],sch:=[(1,.first 0 (rg [3,36]) [1,2]<| .first 1 (rg [3,36]) [2]<| .first 2 (rg [3,36]) []<| .fork 3 (.first 4 (rg [5,36]) []<| .first 5 (rg [6,36]) []<| .first 6 (rg [7,8,18,36]) (rg [8,18])<| .first 7 (rg [18,36]) (rg [8,18])<| .first 8 (rg [9,10,12,13,17,36]) [10,11,13,14,15,16]<| .first 9 (rg [12,13,17,36]) [10,11,13,14,15,16]<| .first 10 (rg [11,13,17,36]) [13,14,15,16]<| .first 11 (rg [12,13,17,36]) [13,14,15,16]<| .first 13 (rg [14,15,17,36]) [12,15,16]<| .first 14 (rg [17,36]) [12,15,16]<| .first 15 (rg [16,36]) [12]<| .first 16 (rg [17,36]) [12]<| .fork 12 (.fork 17 (.fork 18 (.first 19 (rg [20,36]) []<| .first 20 (rg [21,36]) []<| .first 21 [22,33,34,35] (rg [23,33])<| .first 22 [33,34,35] (rg [23,33])<| .first 23 [24,27,32,33,34,35] [25,26,28,29,30,31]<| .first 24 [27,32,33,34,35] [25,26,28,29,30,31]<| .first 25 [26,27,32,33,34,35] [28,29,30,31]<| .first 26 [27,32,33,34,35] [28,29,30,31]<| .first 28 [29,32,33,34,35] [27,30,31]<| .first 29 [32,33,34,35] [27,30,31]<| .first 30 [31,32,33,34,35] [27]<| .first 31 [32,33,34,35] [27]<| .fork 27 (.fork 32 (.fork 33 (.first 34 [35] []<| .fork 35 (.done) (.stop)) (.stop)) (.stop)) (.stop)) (.stop)) (.stop)) (.stop)) (.stop))]}
noncomputable def fc272:FCfg:={par:=[.cst false,.cst false,.cst false,.cst false],inn:=[],out:=[(1,some ([8],[]))],loopK:=[],frz:=[],sch:=[]}
noncomputable def fc273:FCfg:={par:=[.cst false],inn:=[(6,some ([0,3,4,5],[5])),(7,some ([3],[]))],out:=[(6,some ([0,3,4],[]))],loopK:=[(3,([0,3,4],[]))],frz:=[],sch:=[(6,.first 0 [18,19] (rg [1,18])<| .first 1 [3,4,5,8,17,18,19] (rg [2,3,6,8,9,17])<| .first 2 [3,4,5,8,17,18,19] (rg [6,8,9,17])<| .first 3 [4,5,8,17,18,19] (rg [6,8,9,17])<| .first 4 [5,8,17,18,19] (rg [6,8,9,17])<| .first 5 [8,17,18,19] (rg [6,8,9,17])<| .first 6 [7,8,17,18,19] (rg [9,17])<| .first 7 [8,17,18,19] (rg [9,17])<| .first 8 [17,18,19] (rg [9,17])<| .first 9 [11,12,13,16,17,18,19] [10,14,15]<| .first 10 [11,12,13,16,17,18,19] [14,15]<| .first 11 [12,13,16,17,18,19] [14,15]<| .first 12 [13,16,17,18,19] [14,15]<| .first 13 [16,17,18,19] [14,15]<| .first 14 [15,16,17,18,19] []<| .first 15 [16,17,18,19] []<| .first 16 [17,18,19] []<| .first 17 [18,19] []<| .first 18 [19] []<| .fork 19 (.done) (.stop))]}
noncomputable def fc275:FCfg:={par:=[.cst false,.cst false],inn:=[(7,some ([],[]))],out:=[(4,some ([0,3,5,7,8,16],[3]))],loopK:=[(2,([0,3,7,8],[3]))],frz:=[],sch:=[(4,.first 0 [5] [1,2,3,4]<| .first 1 [3,4,5] [2]<| .first 2 [3,4,5] []<| .first 3 [4,5] []<| .first 4 [5] []<| .first 5 [] []<| .done)]}
noncomputable def fc276:FCfg:={par:=[.cst false],inn:=[(4,some ([4,5,6,7],[4])),(7,some ([],[]))],out:=[],loopK:=[(2,([5,6,7],[]))],frz:=[],sch:=[]}
noncomputable def fc277:FCfg:={par:=[.cst false,.cst false,.cst false],inn:=[],out:=[(1,some ([6],[]))],loopK:=[],frz:=[],sch:=[]}
noncomputable def fc278:FCfg:={par:=[.cst false,.cst false,.cst false,.cst false],inn:=[],out:=[(1,some ([8],[]))],loopK:=[],frz:=[],sch:=[]}
noncomputable def fc279:FCfg:={par:=[.cst false],inn:=[(5,some ([0,3,4,5,7,8,9],[5])),(6,some ([0,3,5,6,7,8,9],[5,6])),(8,some ([3],[]))],out:=[],loopK:=[(3,([0,3,7,8,9],[]))],frz:=[],sch:=[]}
noncomputable def fc282:FCfg:={par:=[.cst false,.cst false],inn:=[],out:=[],loopK:=[],frz:=[],sch:=[]}
noncomputable def fc285:FCfg:={par:=[.cst false,.cst false],inn:=[(7,some ([],[]))],out:=[],loopK:=[(2,([0,1,7,8],[]))],frz:=[],sch:=[]}
noncomputable def fc286:FCfg:={par:=[.cst false,.cst false],inn:=[(7,some ([],[]))],out:=[(4,some ([0,3,5,7,8,16],[3]))],loopK:=[(2,([0,3,7,8],[3]))],frz:=[],sch:=[(4,.first 0 [5] [1,2,3,4]<| .first 1 [3,4,5] [2]<| .first 2 [3,4,5] []<| .first 3 [4,5] []<| .first 4 [5] []<| .first 5 [] []<| .done)]}
noncomputable def fc287:FCfg:={par:=[.cut 4,.cst false],inn:=[(5,some ([0,1,5,6,7],[5])),(11,some ([0,1,5,6,7,8],[5])),(13,some ([5],[5]))],out:=[(10,some ([0,1,5,6,7,8,9],[5])),(11,some ([0,1,5,6,7,63],[5]))],loopK:=[(4,([0,1,5,6,7],[5])),(8,([0,1,5,6,7,8,9],[5]))],frz:=[],sch:=[(10,.first 0 (rg [1,25]) []<| .first 1 (rg [2,25]) []<| .first 2 [3,4,5,7,8,9,22,23,24] (rg [6,7,10,22])<| .first 3 [4,5,7,8,9,22,23,24] (rg [6,7,10,22])<| .first 4 [5,7,8,9,22,23,24] (rg [6,7,10,22])<| .first 5 [7,8,9,22,23,24] (rg [6,7,10,22])<| .first 6 [7,8,9,22,23,24] (rg [10,22])<| .first 7 [8,9,22,23,24] (rg [10,22])<| .first 8 [9,22,23,24] (rg [10,22])<| .first 9 [22,23,24] (rg [10,22])<| .first 10 [12,13,22,23,24] (rg [11,12,14,22])<| .first 11 [12,13,22,23,24] (rg [14,22])<| .first 12 [13,22,23,24] (rg [14,22])<| .first 13 [22,23,24] (rg [14,22])<| .first 14 [20,21,22,23,24] [15,16,17,18,19]<| .first 15 [16,19,20,21,22,23,24] [17,18]<| .first 16 (rg [19,25]) [17,18]<| .first 17 (rg [18,25]) []<| .first 18 (rg [19,25]) []<| .first 19 [20,21,22,23,24] []<| .first 20 [21,22,23,24] []<| .first 21 [22,23,24] []<| .fork 22 (.first 23 [24] []<| .fork 24 (.done) (.stop)) (.stop))]}
noncomputable def fc291:FCfg:={par:=[.cut 3],inn:=[],out:=[(2,some ([0,3,19],[])),(5,some ([2],[]))],loopK:=[],frz:=[],sch:=[]}
noncomputable def fc292:FCfg:={par:=[.cut 10],inn:=[(7,some ([],[]))],out:=[(5,some ([0,3,4,64],[]))],loopK:=[(3,([0,3,4],[]))],frz:=[],sch:=[(5,.first 0 (rg [1,4,5,9,10,45]) [4,9]<| .first 1 (rg [2,4,5,9,10,45]) [4,9]<| .first 2 (rg [3,4,5,9,10,45]) [4,9]<| .first 3 (rg [5,9,10,45]) [4,9]<| .first 4 (rg [5,9,10,45]) [9]<| .first 5 (rg [6,9,10,45]) [9]<| .first 6 (rg [7,9,10,45]) [9]<| .first 7 (rg [8,9,10,45]) [9]<| .first 8 (rg [10,45]) [9]<| .first 9 (rg [10,45]) []<| .first 10 (rg [11,45]) []<| .first 11 (rg [12,45]) []<| .first 12 [13,14,15,38,43,44] (rg [16,38,39,43])<| .first 13 [14,15,38,43,44] (rg [16,38,39,43])<| .first 14 [15,38,43,44] (rg [16,38,39,43])<| .first 15 [38,43,44] (rg [16,38,39,43])<| .first 16 [17,18,19,29,30,38,43,44] (rg [20,29,31,38,39,43])<| .first 17 [18,19,29,30,38,43,44] (rg [20,29,31,38,39,43])<| .first 18 [19,29,30,38,43,44] (rg [20,29,31,38,39,43])<| .first 19 [29,30,38,43,44] (rg [20,29,31,38,39,43])<| .first 20 (rg [21,24,25,31,38,39,43,45]) (rg [24,25,31,38,39,43])<| .first 21 [22,23,25,26,27,28,29,30,38,43,44] (rg [24,25,31,38,39,43])<| .first 22 [23,25,26,27,28,29,30,38,43,44] (rg [24,25,31,38,39,43])<| .first 23 [25,26,27,28,29,30,38,43,44] (rg [24,25,31,38,39,43])<| .first 24 [25,26,27,28,29,30,38,43,44] (rg [31,38,39,43])<| .first 25 [26,27,28,29,30,38,43,44] (rg [31,38,39,43])<| .first 26 [27,28,29,30,38,43,44] (rg [31,38,39,43])<| .first 27 [28,29,30,38,43,44] (rg [31,38,39,43])<| .first 28 [29,30,38,43,44] (rg [31,38,39,43])<| .first 29 [30,38,43,44] (rg [31,38,39,43])<| .first 30 [38,43,44] (rg [31,38,39,43])<| .first 31 [32,33,34,36,37,38,43,44] [35,39,40,41,42]<| .first 32 [33,34,36,37,38,43,44] [35,39,40,41,42]<| .first 33 [34,36,37,38,43,44] [35,39,40,41,42]<| .first 34 [36,37,38,43,44] [35,39,40,41,42]<| .first 35 [36,37,38,43,44] [39,40,41,42]<| .first 36 [37,38,43,44] [39,40,41,42]<| .first 37 [38,43,44] [39,40,41,42]<| .first 39 [40,41,42,43,44] [38]<| .first 40 [41,42,43,44] [38]<| .first 41 [42,43,44] [38]<| .first 42 [43,44] [38]<| .fork 38 (.first 43 [44] []<| .first 44 [] []<| .done) (.stop))]}
noncomputable def fc293:FCfg:={par:=[.cst false],inn:=[],out:=[],loopK:=[],frz:=[],sch:=[]}
noncomputable def fc294:FCfg:={par:=[],inn:=[],out:=[],loopK:=[],frz:=[],sch:=[]}
noncomputable def fc295:FCfg:={par:=[],inn:=[],out:=[],loopK:=[],frz:=[],sch:=[]}
noncomputable def fc311:FCfg:={par:=[.cst false],inn:=[],out:=[],loopK:=[],frz:=[],sch:=[]}
noncomputable def fc319:FCfg:={par:=[.cst false,.cst false,.cst false],inn:=[],out:=[],loopK:=[],frz:=[],sch:=[]}
noncomputable def fc320:FCfg:={par:=[.cst false,.cst false,.cst false,.cst false],inn:=[],out:=[(1,some ([8],[]))],loopK:=[],frz:=[],sch:=[(1,.first 0 (rg [3,4,7,23]) [1,2,4,5,6]<| .first 1 (rg [3,4,7,23]) [2,4,5,6]<| .first 2 (rg [3,4,7,23]) [4,5,6]<| .first 4 (rg [7,23]) [3,5,6]<| .first 5 (rg [7,23]) [3,6]<| .first 6 (rg [7,23]) [3]<| .fork 3 (.fork 7 (.first 8 (rg [9,23]) []<| .first 9 (rg [10,23]) []<| .first 10 (rg [11,23]) []<| .first 11 [14,18,19,20,21,22] [12,13,15,16,17]<| .first 12 [14,18,19,20,21,22] [13,15,16,17]<| .first 13 [14,18,19,20,21,22] [15,16,17]<| .first 15 [18,19,20,21,22] [14,16,17]<| .first 16 [18,19,20,21,22] [14,17]<| .first 17 [18,19,20,21,22] [14]<| .fork 14 (.fork 18 (.first 19 [20,21,22] []<| .first 20 [21,22] []<| .first 21 [22] []<| .fork 22 (.done) (.stop)) (.stop)) (.stop)) (.stop)) (.stop))]}
noncomputable def fc321:FCfg:={par:=[.cst false],inn:=[],out:=[(1,some ([2],[]))],loopK:=[],frz:=[],sch:=[]}
noncomputable def fc322:FCfg:={par:=[.cst false,.cst false,.cst false],inn:=[],out:=[],loopK:=[],frz:=[],sch:=[]}
noncomputable def fc323:FCfg:={par:=[.cst false,.cst false,.cst false,.cst false],inn:=[],out:=[(1,some ([8],[]))],loopK:=[],frz:=[],sch:=[(1,.first 0 (rg [3,4,7,23]) [1,2,4,5,6]<| .first 1 (rg [3,4,7,23]) [2,4,5,6]<| .first 2 (rg [3,4,7,23]) [4,5,6]<| .first 4 (rg [7,23]) [3,5,6]<| .first 5 (rg [7,23]) [3,6]<| .first 6 (rg [7,23]) [3]<| .fork 3 (.fork 7 (.first 8 (rg [9,23]) []<| .first 9 (rg [10,23]) []<| .first 10 (rg [11,23]) []<| .first 11 [14,18,19,20,21,22] [12,13,15,16,17]<| .first 12 [14,18,19,20,21,22] [13,15,16,17]<| .first 13 [14,18,19,20,21,22] [15,16,17]<| .first 15 [18,19,20,21,22] [14,16,17]<| .first 16 [18,19,20,21,22] [14,17]<| .first 17 [18,19,20,21,22] [14]<| .fork 14 (.fork 18 (.first 19 [20,21,22] []<| .first 20 [21,22] []<| .first 21 [22] []<| .fork 22 (.done) (.stop)) (.stop)) (.stop)) (.stop)) (.stop))]}
noncomputable def fc325:FCfg:={par:=[.cst false,.cst false,.cst false],inn:=[(8,some ([],[]))],out:=[(6,some ([0,1,2,7,45],[]))],loopK:=[(2,([0,1,2,7],[]))],frz:=[],sch:=[]}
noncomputable def fc338:FCfg:={par:=[.cst false],inn:=[(7,some ([],[]))],out:=[],loopK:=[(3,([0,3,4],[3]))],frz:=[],sch:=[]}
noncomputable def fc339:FCfg:={par:=[.cst false],inn:=[],out:=[],loopK:=[],frz:=[],sch:=[]}
noncomputable def fc340:FCfg:={par:=[.cst false,.cst false,.cst false],inn:=[(5,some ([0,1,2,7,8,9],[])),(9,some ([8],[]))],out:=[(6,some ([0,1,2,7,8,9,10],[])),(7,some ([0,1,2,7,8,9,10,39],[]))],loopK:=[(4,([0,1,2,7,8,9],[]))],frz:=[],sch:=[(6,.first 0 [6,14,15] (rg [1,6,7,14])<| .first 1 [3,5,6,14,15] [2,4,7,8,9,10,11,12,13]<| .first 2 [3,5,6,14,15] (rg [4,5,7,14])<| .first 3 [5,6,14,15] (rg [4,5,7,14])<| .first 4 [5,6,14,15] (rg [7,14])<| .first 5 [6,14,15] (rg [7,14])<| .first 6 [14,15] (rg [7,14])<| .first 7 [13,14,15] [8,9,10,11,12]<| .first 8 [10,12,13,14,15] [9,11]<| .first 9 [10,12,13,14,15] [11]<| .first 10 [12,13,14,15] [11]<| .first 11 [12,13,14,15] []<| .first 12 [13,14,15] []<| .first 13 [14,15] []<| .fork 14 (.fork 15 (.done) (.stop)) (.stop))]}
noncomputable def fc341:FCfg:={par:=[.cst false,.cst false],inn:=[],out:=[],loopK:=[],frz:=[],sch:=[]}
noncomputable def fc342:FCfg:={par:=[.cst false],inn:=[],out:=[],loopK:=[],frz:=[],sch:=[]}
noncomputable def fc349:FCfg:={par:=[.cst false],inn:=[],out:=[],loopK:=[],frz:=[],sch:=[]}
noncomputable def fc354:FCfg:={par:=[.cst false,.cst false,.cst false],inn:=[],out:=[],loopK:=[],frz:=[],sch:=[]}
noncomputable def fc360:FCfg:={par:=[.cut 3,.cut 3],inn:=[],out:=[(1,some ([4],[]))],loopK:=[],frz:=[],sch:=[(1,.first 0 [1,2,3,8,18,27,28,29,30] (rg [4,8,9,18,19,27])<| .first 1 [2,3,8,18,27,28,29,30] (rg [4,8,9,18,19,27])<| .first 2 [3,8,18,27,28,29,30] (rg [4,8,9,18,19,27])<| .first 3 [8,18,27,28,29,30] (rg [4,8,9,18,19,27])<| .first 4 [5,6,7,8,18,27,28,29,30] (rg [9,18,19,27])<| .first 5 [6,7,8,18,27,28,29,30] (rg [9,18,19,27])<| .first 6 [7,8,18,27,28,29,30] (rg [9,18,19,27])<| .first 7 [8,18,27,28,29,30] (rg [9,18,19,27])<| .first 8 [18,27,28,29,30] (rg [9,18,19,27])<| .first 9 [10,11,12,17,18,27,28,29,30] (rg [13,17,19,27])<| .first 10 [11,12,17,18,27,28,29,30] (rg [13,17,19,27])<| .first 11 [12,17,18,27,28,29,30] (rg [13,17,19,27])<| .first 12 [17,18,27,28,29,30] (rg [13,17,19,27])<| .first 13 (rg [14,19,27,31]) (rg [19,27])<| .first 14 (rg [15,19,27,31]) (rg [19,27])<| .first 15 [16,17,18,27,28,29,30] (rg [19,27])<| .first 16 [17,18,27,28,29,30] (rg [19,27])<| .first 17 [18,27,28,29,30] (rg [19,27])<| .first 19 [20,21,22,27,28,29,30] [18,23,24,25,26]<| .first 20 [21,22,27,28,29,30] [18,23,24,25,26]<| .first 21 [22,27,28,29,30] [18,23,24,25,26]<| .first 22 [27,28,29,30] [18,23,24,25,26]<| .first 23 (rg [24,31]) [18]<| .first 24 (rg [25,31]) [18]<| .first 25 [26,27,28,29,30] [18]<| .first 26 [27,28,29,30] [18]<| .fork 18 (.fork 27 (.first 28 [29,30] []<| .first 29 [30] []<| .fork 30 (.done) (.stop)) (.stop)) (.stop))]}
noncomputable def fc361:FCfg:={par:=[.cst false,.cst false],inn:=[(7,some ([],[]))],out:=[],loopK:=[(2,([0,1,7,8],[]))],frz:=[],sch:=[]}
noncomputable def fcs:List (Nat×FCfg):=[(10,fc10),(36,fc36),(38,fc38),(39,fc39),(41,fc41),(59,fc59),(60,fc60),(61,fc61),(62,fc62),(63,fc63),(84,fc84),(87,fc87),(94,fc94),(98,fc98),(107,fc107),(110,fc110),(111,fc111),(113,fc113),(114,fc114),(115,fc115),(116,fc116),(117,fc117),(131,fc131),(134,fc134),(135,fc135),(136,fc136),(137,fc137),(138,fc138),(139,fc139),(142,fc142),(171,fc171),(172,fc172),(173,fc173),(174,fc174),(178,fc178),(179,fc179),(180,fc180),(181,fc181),(196,fc196),(197,fc197),(198,fc198),(199,fc199),(201,fc201),(204,fc204),(205,fc205),(206,fc206),(207,fc207),(218,fc218),(222,fc222),(223,fc223),(224,fc224),(225,fc225),(226,fc226),(227,fc227),(230,fc230),(236,fc236),(241,fc241),(268,fc268),(269,fc269),(270,fc270),(271,fc271),(272,fc272),(273,fc273),(275,fc275),(276,fc276),(277,fc277),(278,fc278),(279,fc279),(282,fc282),(285,fc285),(286,fc286),(287,fc287),(291,fc291),(292,fc292),(293,fc293),(294,fc294),(295,fc295),(311,fc311),(319,fc319),(320,fc320),(321,fc321),(322,fc322),(323,fc323),(325,fc325),(338,fc338),(339,fc339),(340,fc340),(341,fc341),(342,fc342),(349,fc349),(354,fc354),(360,fc360),(361,fc361)]
noncomputable def ons:List (Nat×Bool):=[(10,true),(36,true),(38,true),(39,true),(41,true),(59,true),(60,true),(61,true),(62,true),(63,true),(84,true),(87,true),(94,true),(98,true),(107,true),(110,true),(111,true),(113,true),(114,true),(115,true),(116,true),(117,true),(131,true),(134,true),(135,true),(136,true),(137,true),(138,true),(139,true),(142,true),(171,true),(172,true),(173,true),(174,true),(178,true),(179,true),(180,true),(181,true),(196,true),(197,true),(198,true),(199,true),(201,true),(204,true),(205,true),(206,true),(207,true),(218,true),(222,true),(223,true),(224,true),(225,true),(226,true),(227,true),(230,true),(236,true),(241,true),(268,true),(269,true),(270,true),(271,true),(272,true),(273,true),(275,true),(276,true),(277,true),(278,true),(279,true),(282,true),(285,true),(286,true),(287,true),(291,true),(292,true),(293,true),(294,true),(295,true),(311,true),(319,true),(320,true),(321,true),(322,true),(323,true),(325,true),(338,true),(339,true),(340,true),(341,true),(342,true),(349,true),(354,true),(360,true),(361,true)]
noncomputable def cfg:Cfg:=mkCfg ons fcs [(192,some (extCloneN 1 8))] [(61,26)]
theorem c10:cfg.fc 10=fc10:=rfl
instance C10:Cf cfg 10 fc10:=⟨c10⟩
instance Z10:Zf cfg 10:=⟨rfl⟩
theorem z10:(cfg.fc 10).frz=[]:=rfl
theorem c36:cfg.fc 36=fc36:=rfl
instance C36:Cf cfg 36 fc36:=⟨c36⟩
instance Z36:Zf cfg 36:=⟨rfl⟩
theorem c38:cfg.fc 38=fc38:=rfl
instance C38:Cf cfg 38 fc38:=⟨c38⟩
instance Z38:Zf cfg 38:=⟨rfl⟩
theorem c39:cfg.fc 39=fc39:=rfl
instance C39:Cf cfg 39 fc39:=⟨c39⟩
instance Z39:Zf cfg 39:=⟨rfl⟩
theorem c41:cfg.fc 41=fc41:=rfl
instance C41:Cf cfg 41 fc41:=⟨c41⟩
instance Z41:Zf cfg 41:=⟨rfl⟩
theorem c59:cfg.fc 59=fc59:=rfl
instance C59:Cf cfg 59 fc59:=⟨c59⟩
instance Z59:Zf cfg 59:=⟨rfl⟩
theorem c60:cfg.fc 60=fc60:=rfl
instance C60:Cf cfg 60 fc60:=⟨c60⟩
theorem z60:(cfg.fc 60).frz=[4]:=rfl
theorem c61:cfg.fc 61=fc61:=rfl
instance C61:Cf cfg 61 fc61:=⟨c61⟩
instance Z61:Zf cfg 61:=⟨rfl⟩
theorem c62:cfg.fc 62=fc62:=rfl
instance C62:Cf cfg 62 fc62:=⟨c62⟩
instance Z62:Zf cfg 62:=⟨rfl⟩
theorem c63:cfg.fc 63=fc63:=rfl
instance C63:Cf cfg 63 fc63:=⟨c63⟩
instance Z63:Zf cfg 63:=⟨rfl⟩
theorem z63:(cfg.fc 63).frz=[]:=rfl
theorem c84:cfg.fc 84=fc84:=rfl
instance C84:Cf cfg 84 fc84:=⟨c84⟩
instance Z84:Zf cfg 84:=⟨rfl⟩
theorem z84:(cfg.fc 84).frz=[]:=rfl
theorem c87:cfg.fc 87=fc87:=rfl
instance C87:Cf cfg 87 fc87:=⟨c87⟩
instance Z87:Zf cfg 87:=⟨rfl⟩
theorem z87:(cfg.fc 87).frz=[]:=rfl
theorem c94:cfg.fc 94=fc94:=rfl
instance C94:Cf cfg 94 fc94:=⟨c94⟩
instance Z94:Zf cfg 94:=⟨rfl⟩
theorem c98:cfg.fc 98=fc98:=rfl
instance C98:Cf cfg 98 fc98:=⟨c98⟩
instance Z98:Zf cfg 98:=⟨rfl⟩
theorem c107:cfg.fc 107=fc107:=rfl
instance C107:Cf cfg 107 fc107:=⟨c107⟩
theorem z107:(cfg.fc 107).frz=[2]:=rfl
theorem c110:cfg.fc 110=fc110:=rfl
instance C110:Cf cfg 110 fc110:=⟨c110⟩
instance Z110:Zf cfg 110:=⟨rfl⟩
theorem c111:cfg.fc 111=fc111:=rfl
instance C111:Cf cfg 111 fc111:=⟨c111⟩
instance Z111:Zf cfg 111:=⟨rfl⟩
theorem c113:cfg.fc 113=fc113:=rfl
instance C113:Cf cfg 113 fc113:=⟨c113⟩
instance Z113:Zf cfg 113:=⟨rfl⟩
theorem c114:cfg.fc 114=fc114:=rfl
instance C114:Cf cfg 114 fc114:=⟨c114⟩
instance Z114:Zf cfg 114:=⟨rfl⟩
theorem c115:cfg.fc 115=fc115:=rfl
instance C115:Cf cfg 115 fc115:=⟨c115⟩
instance Z115:Zf cfg 115:=⟨rfl⟩
theorem z115:(cfg.fc 115).frz=[]:=rfl
theorem c116:cfg.fc 116=fc116:=rfl
instance C116:Cf cfg 116 fc116:=⟨c116⟩
instance Z116:Zf cfg 116:=⟨rfl⟩
theorem z116:(cfg.fc 116).frz=[]:=rfl
theorem c117:cfg.fc 117=fc117:=rfl
instance C117:Cf cfg 117 fc117:=⟨c117⟩
instance Z117:Zf cfg 117:=⟨rfl⟩
theorem c131:cfg.fc 131=fc131:=rfl
instance C131:Cf cfg 131 fc131:=⟨c131⟩
instance Z131:Zf cfg 131:=⟨rfl⟩
theorem c134:cfg.fc 134=fc134:=rfl
instance C134:Cf cfg 134 fc134:=⟨c134⟩
instance Z134:Zf cfg 134:=⟨rfl⟩
theorem c135:cfg.fc 135=fc135:=rfl
instance C135:Cf cfg 135 fc135:=⟨c135⟩
instance Z135:Zf cfg 135:=⟨rfl⟩
theorem c136:cfg.fc 136=fc136:=rfl
instance C136:Cf cfg 136 fc136:=⟨c136⟩
instance Z136:Zf cfg 136:=⟨rfl⟩
theorem z136:(cfg.fc 136).frz=[]:=rfl
theorem c137:cfg.fc 137=fc137:=rfl
instance C137:Cf cfg 137 fc137:=⟨c137⟩
instance Z137:Zf cfg 137:=⟨rfl⟩
theorem c138:cfg.fc 138=fc138:=rfl
instance C138:Cf cfg 138 fc138:=⟨c138⟩
instance Z138:Zf cfg 138:=⟨rfl⟩
theorem c139:cfg.fc 139=fc139:=rfl
instance C139:Cf cfg 139 fc139:=⟨c139⟩
instance Z139:Zf cfg 139:=⟨rfl⟩
theorem c142:cfg.fc 142=fc142:=rfl
instance C142:Cf cfg 142 fc142:=⟨c142⟩
instance Z142:Zf cfg 142:=⟨rfl⟩
theorem z142:(cfg.fc 142).frz=[]:=rfl
theorem c171:cfg.fc 171=fc171:=rfl
instance C171:Cf cfg 171 fc171:=⟨c171⟩
instance Z171:Zf cfg 171:=⟨rfl⟩
theorem z171:(cfg.fc 171).frz=[]:=rfl
theorem c172:cfg.fc 172=fc172:=rfl
instance C172:Cf cfg 172 fc172:=⟨c172⟩
instance Z172:Zf cfg 172:=⟨rfl⟩
theorem c173:cfg.fc 173=fc173:=rfl
instance C173:Cf cfg 173 fc173:=⟨c173⟩
instance Z173:Zf cfg 173:=⟨rfl⟩
theorem z173:(cfg.fc 173).frz=[]:=rfl
theorem c174:cfg.fc 174=fc174:=rfl
instance C174:Cf cfg 174 fc174:=⟨c174⟩
instance Z174:Zf cfg 174:=⟨rfl⟩
theorem z174:(cfg.fc 174).frz=[]:=rfl
theorem c178:cfg.fc 178=fc178:=rfl
instance C178:Cf cfg 178 fc178:=⟨c178⟩
instance Z178:Zf cfg 178:=⟨rfl⟩
theorem c179:cfg.fc 179=fc179:=rfl
instance C179:Cf cfg 179 fc179:=⟨c179⟩
instance Z179:Zf cfg 179:=⟨rfl⟩
theorem c180:cfg.fc 180=fc180:=rfl
instance C180:Cf cfg 180 fc180:=⟨c180⟩
instance Z180:Zf cfg 180:=⟨rfl⟩
theorem c181:cfg.fc 181=fc181:=rfl
instance C181:Cf cfg 181 fc181:=⟨c181⟩
instance Z181:Zf cfg 181:=⟨rfl⟩
theorem z181:(cfg.fc 181).frz=[]:=rfl
theorem c196:cfg.fc 196=fc196:=rfl
instance C196:Cf cfg 196 fc196:=⟨c196⟩
instance Z196:Zf cfg 196:=⟨rfl⟩
theorem c197:cfg.fc 197=fc197:=rfl
instance C197:Cf cfg 197 fc197:=⟨c197⟩
instance Z197:Zf cfg 197:=⟨rfl⟩
theorem c198:cfg.fc 198=fc198:=rfl
instance C198:Cf cfg 198 fc198:=⟨c198⟩
instance Z198:Zf cfg 198:=⟨rfl⟩
theorem z198:(cfg.fc 198).frz=[]:=rfl
theorem c199:cfg.fc 199=fc199:=rfl
instance C199:Cf cfg 199 fc199:=⟨c199⟩
instance Z199:Zf cfg 199:=⟨rfl⟩
theorem c201:cfg.fc 201=fc201:=rfl
instance C201:Cf cfg 201 fc201:=⟨c201⟩
instance Z201:Zf cfg 201:=⟨rfl⟩
theorem c204:cfg.fc 204=fc204:=rfl
instance C204:Cf cfg 204 fc204:=⟨c204⟩
instance Z204:Zf cfg 204:=⟨rfl⟩
theorem c205:cfg.fc 205=fc205:=rfl
instance C205:Cf cfg 205 fc205:=⟨c205⟩
instance Z205:Zf cfg 205:=⟨rfl⟩
theorem c206:cfg.fc 206=fc206:=rfl
instance C206:Cf cfg 206 fc206:=⟨c206⟩
instance Z206:Zf cfg 206:=⟨rfl⟩
theorem c207:cfg.fc 207=fc207:=rfl
instance C207:Cf cfg 207 fc207:=⟨c207⟩
instance Z207:Zf cfg 207:=⟨rfl⟩
theorem c218:cfg.fc 218=fc218:=rfl
instance C218:Cf cfg 218 fc218:=⟨c218⟩
instance Z218:Zf cfg 218:=⟨rfl⟩
theorem c222:cfg.fc 222=fc222:=rfl
instance C222:Cf cfg 222 fc222:=⟨c222⟩
instance Z222:Zf cfg 222:=⟨rfl⟩
theorem c223:cfg.fc 223=fc223:=rfl
instance C223:Cf cfg 223 fc223:=⟨c223⟩
instance Z223:Zf cfg 223:=⟨rfl⟩
theorem c224:cfg.fc 224=fc224:=rfl
instance C224:Cf cfg 224 fc224:=⟨c224⟩
instance Z224:Zf cfg 224:=⟨rfl⟩
theorem c225:cfg.fc 225=fc225:=rfl
instance C225:Cf cfg 225 fc225:=⟨c225⟩
instance Z225:Zf cfg 225:=⟨rfl⟩
theorem z225:(cfg.fc 225).frz=[]:=rfl
theorem c226:cfg.fc 226=fc226:=rfl
instance C226:Cf cfg 226 fc226:=⟨c226⟩
instance Z226:Zf cfg 226:=⟨rfl⟩
theorem c227:cfg.fc 227=fc227:=rfl
instance C227:Cf cfg 227 fc227:=⟨c227⟩
instance Z227:Zf cfg 227:=⟨rfl⟩
theorem z227:(cfg.fc 227).frz=[]:=rfl
theorem c230:cfg.fc 230=fc230:=rfl
instance C230:Cf cfg 230 fc230:=⟨c230⟩
instance Z230:Zf cfg 230:=⟨rfl⟩
theorem c236:cfg.fc 236=fc236:=rfl
instance C236:Cf cfg 236 fc236:=⟨c236⟩
instance Z236:Zf cfg 236:=⟨rfl⟩
theorem c241:cfg.fc 241=fc241:=rfl
instance C241:Cf cfg 241 fc241:=⟨c241⟩
instance Z241:Zf cfg 241:=⟨rfl⟩
theorem c268:cfg.fc 268=fc268:=rfl
instance C268:Cf cfg 268 fc268:=⟨c268⟩
instance Z268:Zf cfg 268:=⟨rfl⟩
theorem c269:cfg.fc 269=fc269:=rfl
instance C269:Cf cfg 269 fc269:=⟨c269⟩
instance Z269:Zf cfg 269:=⟨rfl⟩
theorem c270:cfg.fc 270=fc270:=rfl
instance C270:Cf cfg 270 fc270:=⟨c270⟩
instance Z270:Zf cfg 270:=⟨rfl⟩
theorem c271:cfg.fc 271=fc271:=rfl
instance C271:Cf cfg 271 fc271:=⟨c271⟩
instance Z271:Zf cfg 271:=⟨rfl⟩
theorem z271:(cfg.fc 271).frz=[]:=rfl
theorem c272:cfg.fc 272=fc272:=rfl
instance C272:Cf cfg 272 fc272:=⟨c272⟩
instance Z272:Zf cfg 272:=⟨rfl⟩
theorem c273:cfg.fc 273=fc273:=rfl
instance C273:Cf cfg 273 fc273:=⟨c273⟩
instance Z273:Zf cfg 273:=⟨rfl⟩
theorem z273:(cfg.fc 273).frz=[]:=rfl
theorem c275:cfg.fc 275=fc275:=rfl
instance C275:Cf cfg 275 fc275:=⟨c275⟩
instance Z275:Zf cfg 275:=⟨rfl⟩
theorem c276:cfg.fc 276=fc276:=rfl
instance C276:Cf cfg 276 fc276:=⟨c276⟩
instance Z276:Zf cfg 276:=⟨rfl⟩
theorem c277:cfg.fc 277=fc277:=rfl
instance C277:Cf cfg 277 fc277:=⟨c277⟩
instance Z277:Zf cfg 277:=⟨rfl⟩
theorem c278:cfg.fc 278=fc278:=rfl
instance C278:Cf cfg 278 fc278:=⟨c278⟩
instance Z278:Zf cfg 278:=⟨rfl⟩
theorem c279:cfg.fc 279=fc279:=rfl
instance C279:Cf cfg 279 fc279:=⟨c279⟩
instance Z279:Zf cfg 279:=⟨rfl⟩
theorem c282:cfg.fc 282=fc282:=rfl
instance C282:Cf cfg 282 fc282:=⟨c282⟩
instance Z282:Zf cfg 282:=⟨rfl⟩
theorem c285:cfg.fc 285=fc285:=rfl
instance C285:Cf cfg 285 fc285:=⟨c285⟩
instance Z285:Zf cfg 285:=⟨rfl⟩
theorem c286:cfg.fc 286=fc286:=rfl
instance C286:Cf cfg 286 fc286:=⟨c286⟩
instance Z286:Zf cfg 286:=⟨rfl⟩
theorem c287:cfg.fc 287=fc287:=rfl
instance C287:Cf cfg 287 fc287:=⟨c287⟩
instance Z287:Zf cfg 287:=⟨rfl⟩
theorem z287:(cfg.fc 287).frz=[]:=rfl
theorem c291:cfg.fc 291=fc291:=rfl
instance C291:Cf cfg 291 fc291:=⟨c291⟩
instance Z291:Zf cfg 291:=⟨rfl⟩
theorem c292:cfg.fc 292=fc292:=rfl
instance C292:Cf cfg 292 fc292:=⟨c292⟩
instance Z292:Zf cfg 292:=⟨rfl⟩
theorem z292:(cfg.fc 292).frz=[]:=rfl
theorem c293:cfg.fc 293=fc293:=rfl
instance C293:Cf cfg 293 fc293:=⟨c293⟩
instance Z293:Zf cfg 293:=⟨rfl⟩
theorem c294:cfg.fc 294=fc294:=rfl
instance C294:Cf cfg 294 fc294:=⟨c294⟩
instance Z294:Zf cfg 294:=⟨rfl⟩
theorem c295:cfg.fc 295=fc295:=rfl
instance C295:Cf cfg 295 fc295:=⟨c295⟩
instance Z295:Zf cfg 295:=⟨rfl⟩
theorem c311:cfg.fc 311=fc311:=rfl
instance C311:Cf cfg 311 fc311:=⟨c311⟩
instance Z311:Zf cfg 311:=⟨rfl⟩
theorem c319:cfg.fc 319=fc319:=rfl
instance C319:Cf cfg 319 fc319:=⟨c319⟩
instance Z319:Zf cfg 319:=⟨rfl⟩
theorem c320:cfg.fc 320=fc320:=rfl
instance C320:Cf cfg 320 fc320:=⟨c320⟩
instance Z320:Zf cfg 320:=⟨rfl⟩
theorem z320:(cfg.fc 320).frz=[]:=rfl
theorem c321:cfg.fc 321=fc321:=rfl
instance C321:Cf cfg 321 fc321:=⟨c321⟩
instance Z321:Zf cfg 321:=⟨rfl⟩
theorem c322:cfg.fc 322=fc322:=rfl
instance C322:Cf cfg 322 fc322:=⟨c322⟩
instance Z322:Zf cfg 322:=⟨rfl⟩
theorem c323:cfg.fc 323=fc323:=rfl
instance C323:Cf cfg 323 fc323:=⟨c323⟩
instance Z323:Zf cfg 323:=⟨rfl⟩
theorem z323:(cfg.fc 323).frz=[]:=rfl
theorem c325:cfg.fc 325=fc325:=rfl
instance C325:Cf cfg 325 fc325:=⟨c325⟩
instance Z325:Zf cfg 325:=⟨rfl⟩
theorem c338:cfg.fc 338=fc338:=rfl
instance C338:Cf cfg 338 fc338:=⟨c338⟩
instance Z338:Zf cfg 338:=⟨rfl⟩
theorem c339:cfg.fc 339=fc339:=rfl
instance C339:Cf cfg 339 fc339:=⟨c339⟩
instance Z339:Zf cfg 339:=⟨rfl⟩
theorem c340:cfg.fc 340=fc340:=rfl
instance C340:Cf cfg 340 fc340:=⟨c340⟩
instance Z340:Zf cfg 340:=⟨rfl⟩
theorem z340:(cfg.fc 340).frz=[]:=rfl
theorem c341:cfg.fc 341=fc341:=rfl
instance C341:Cf cfg 341 fc341:=⟨c341⟩
instance Z341:Zf cfg 341:=⟨rfl⟩
theorem c342:cfg.fc 342=fc342:=rfl
instance C342:Cf cfg 342 fc342:=⟨c342⟩
instance Z342:Zf cfg 342:=⟨rfl⟩
theorem c349:cfg.fc 349=fc349:=rfl
instance C349:Cf cfg 349 fc349:=⟨c349⟩
instance Z349:Zf cfg 349:=⟨rfl⟩
theorem c354:cfg.fc 354=fc354:=rfl
instance C354:Cf cfg 354 fc354:=⟨c354⟩
instance Z354:Zf cfg 354:=⟨rfl⟩
theorem c360:cfg.fc 360=fc360:=rfl
instance C360:Cf cfg 360 fc360:=⟨c360⟩
instance Z360:Zf cfg 360:=⟨rfl⟩
theorem z360:(cfg.fc 360).frz=[]:=rfl
theorem c361:cfg.fc 361=fc361:=rfl
instance C361:Cf cfg 361 fc361:=⟨c361⟩
instance Z361:Zf cfg 361:=⟨rfl⟩
noncomputable abbrev Pg:=Try.prog
theorem bF215:buildF Pg 215=some ([.nil,z0,.nil,z0,.nil,.im 0 (.sc (.bool false)),.nil,z0,z0,z0],[(0,1),(1,1),(2,1),(3,1),(4,1),(5,1),(6,1),(7,1),(8,1),(9,1)]):=kr
theorem bF221:buildF Pg 221=some ([.nil,.nil,z0,z0,z0,.nil,.im 0 (.sc (.bool false))],[(0,1),(1,1),(2,1),(3,1),(4,1),(5,1),(6,1)]):=kr
theorem bF283:buildF Pg 283=some ([z0,z0],[(0,1),(1,1)]):=kr
theorem eF23:elemSz Pg 23=some (264,2):=kr
theorem eF24:elemSz Pg 24=some (257,2):=kr
theorem eF28:elemSz Pg 28=some (2,1):=kr
theorem eF280:elemSz Pg 280=some (283,2):=kr
theorem eF304:elemSz Pg 304=some (9,1):=kr
theorem eF41:elemSz Pg 41=some (28,1):=kr
theorem eF84:elemSz Pg 84=some (104,3):=kr
theorem fF104_0:fieldF Pg 104 0=some 0:=kr
theorem fF104_1:fieldF Pg 104 1=some 1:=kr
theorem fF104_2:fieldF Pg 104 2=some 2:=kr
theorem fF156_0:fieldF Pg 156 0=some 0:=kr
theorem fF156_1:fieldF Pg 156 1=some 1:=kr
theorem fF156_2:fieldF Pg 156 2=some 2:=kr
theorem fF215_0:fieldF Pg 215 0=some 0:=kr
theorem fF215_1:fieldF Pg 215 1=some 1:=kr
theorem fF215_2:fieldF Pg 215 2=some 2:=kr
theorem fF215_3:fieldF Pg 215 3=some 3:=kr
theorem fF215_4:fieldF Pg 215 4=some 4:=kr
theorem fF215_5:fieldF Pg 215 5=some 5:=kr
theorem fF215_6:fieldF Pg 215 6=some 6:=kr
theorem fF215_7:fieldF Pg 215 7=some 7:=kr
theorem fF215_8:fieldF Pg 215 8=some 8:=kr
theorem fF215_9:fieldF Pg 215 9=some 9:=kr
theorem fF221_0:fieldF Pg 221 0=some 0:=kr
theorem fF221_1:fieldF Pg 221 1=some 1:=kr
theorem fF221_2:fieldF Pg 221 2=some 2:=kr
theorem fF221_3:fieldF Pg 221 3=some 3:=kr
theorem fF221_4:fieldF Pg 221 4=some 4:=kr
theorem fF221_5:fieldF Pg 221 5=some 5:=kr
theorem fF221_6:fieldF Pg 221 6=some 6:=kr
theorem fF257_0:fieldF Pg 257 0=some 0:=kr
theorem fF257_1:fieldF Pg 257 1=some 1:=kr
theorem fF264_0:fieldF Pg 264 0=some 0:=kr
theorem fF264_1:fieldF Pg 264 1=some 1:=kr
theorem fF26_0:fieldF Pg 26 0=some 0:=kr
theorem fF26_1:fieldF Pg 26 1=some 1:=kr
theorem fF26_2:fieldF Pg 26 2=some 2:=kr
theorem fF26_3:fieldF Pg 26 3=some 3:=kr
theorem fF287_0:fieldF Pg 287 0=some 0:=kr
theorem fF287_1:fieldF Pg 287 1=some 1:=kr
theorem fF291_0:fieldF Pg 291 0=some 0:=kr
theorem fF291_1:fieldF Pg 291 1=some 1:=kr
theorem fF56_0:fieldF Pg 56 0=some 0:=kr
theorem fF56_1:fieldF Pg 56 1=some 1:=kr
theorem fF56_2:fieldF Pg 56 2=some 2:=kr
theorem fF56_3:fieldF Pg 56 3=some 3:=kr
theorem kF107_26:callK Pg cfg 107 0 [26]=[(.cst false,[none,none,some 2,some 2])]:=kr
theorem kF110_53_3:callK Pg cfg 110 0 [53,3]=[(.cst false,[some 2]),(.cst false,[none])]:=kr
theorem kF111_54_3:callK Pg cfg 111 0 [54,3]=[(.cst false,[some 2]),(.cst false,[none])]:=kr
theorem kF113_53:callK Pg cfg 113 0 [53]=[(.cst false,[some 2])]:=kr
theorem kF114_54:callK Pg cfg 114 0 [54]=[(.cst false,[some 2])]:=kr
theorem kF115_23_23:callK Pg cfg 115 0 [23,23]=[(.cst false,[some 2]),(.cst false,[some 2])]:=kr
theorem kF116_24_24:callK Pg cfg 116 0 [24,24]=[(.cst false,[some 2]),(.cst false,[some 2])]:=kr
theorem kF117_28:callK Pg cfg 117 0 [28]=[(.cst false,[some 1])]:=kr
theorem kF131_28_3:callK Pg cfg 131 0 [28,3]=[(.cst false,[some 1]),(.cst false,[none])]:=kr
theorem kF134_28:callK Pg cfg 134 0 [28]=[(.cst false,[some 1])]:=kr
theorem kF135_156_3:callK Pg cfg 135 0 [156,3]=[(.cst false,[none,none,none]),(.cst false,[none])]:=kr
theorem kF136_141_84_2_2_4:callK Pg cfg 136 0 [141,84,2,2,4]=[(.cut 4,[none]),(.cst false,[some 3]),(.cst false,[none]),(.cst false,[none]),(.cst false,[none])]:=kr
theorem kF137_156:callK Pg cfg 137 0 [156]=[(.cst false,[none,none,none])]:=kr
theorem kF138_26_84_2_2_4:callK Pg cfg 138 0 [26,84,2,2,4]=[(.cst false,[none,none,some 2,some 2]),(.cst false,[some 3]),(.cst false,[none]),(.cst false,[none]),(.cst false,[none])]:=kr
theorem kF139_104_104:callK Pg cfg 139 0 [104,104]=[(.cst false,[none,none,none]),(.cst false,[none,none,none])]:=kr
theorem kF142_84:callK Pg cfg 142 0 [84]=[(.cst false,[some 3])]:=kr
theorem kF171_141:callK Pg cfg 171 0 [141]=[(.cut 4,[none])]:=kr
theorem kF172_9:callK Pg cfg 172 0 [9]=[(.cst false,[none])]:=kr
theorem kF173_141_28:callK Pg cfg 173 0 [141,28]=[(.cut 4,[none]),(.cst false,[some 1])]:=kr
theorem kF174_23:callK Pg cfg 174 0 [23]=[(.cst false,[some 2])]:=kr
theorem kF178_23_264:callK Pg cfg 178 0 [23,264]=[(.cst false,[some 2]),(.cst false,[none,none])]:=kr
theorem kF179_9:callK Pg cfg 179 0 [9]=[(.cst false,[none])]:=kr
theorem kF180_23_28:callK Pg cfg 180 0 [23,28]=[(.cst false,[some 2]),(.cst false,[some 1])]:=kr
theorem kF181_23:callK Pg cfg 181 0 [23]=[(.cst false,[some 2])]:=kr
theorem kF192_28:callK Pg cfg 192 0 [28]=[(.cst false,[some 1])]:=kr
theorem kF196_28:callK Pg cfg 196 0 [28]=[(.cst false,[some 1])]:=kr
theorem kF197_280_285:callK Pg cfg 197 0 [280,285]=[(.cst false,[some 2]),(.cst false,[none])]:=kr
theorem kF198_283_0_0:callK Pg cfg 198 0 [283,0,0]=[(.cst false,[none,none]),(.cst false,[none]),(.cst false,[none])]:=kr
theorem kF199_280_283:callK Pg cfg 199 0 [280,283]=[(.cst false,[some 2]),(.cst false,[none,none])]:=kr
theorem kF201_287_3:callK Pg cfg 201 0 [287,3]=[(.cst false,[none,some 1]),(.cst false,[none])]:=kr
theorem kF204_291:callK Pg cfg 204 0 [291]=[(.cst false,[none,none])]:=kr
theorem kF205_287:callK Pg cfg 205 0 [287]=[(.cst false,[none,some 1])]:=kr
theorem kF206_264_264:callK Pg cfg 206 0 [264,264]=[(.cst false,[none,none]),(.cst false,[none,none])]:=kr
theorem kF207_257_257:callK Pg cfg 207 0 [257,257]=[(.cst false,[none,some 1]),(.cst false,[none,some 1])]:=kr
theorem kF218_2_2:callK Pg cfg 218 0 [2,2]=[(.cst false,[none]),(.cst false,[none])]:=kr
theorem kF222_2_2:callK Pg cfg 222 0 [2,2]=[(.cst false,[none]),(.cst false,[none])]:=kr
theorem kF223_84:callK Pg cfg 223 0 [84]=[(.cst false,[some 3])]:=kr
theorem kF224_141:callK Pg cfg 224 0 [141]=[(.cut 4,[none])]:=kr
theorem kF225_211:callK Pg cfg 225 0 [211]=[(.ptr [.imm,.imm,.imm,.imm,.sh,.imm,.sh,.imm,.imm,.imm],[none])]:=kr
theorem kF226_84:callK Pg cfg 226 0 [84]=[(.cst false,[some 3])]:=kr
theorem kF227_217_28:callK Pg cfg 227 0 [217,28]=[(.ptr [.imm,.imm,.imm,.imm,.imm,.sh,.imm],[none]),(.mv,[some 1])]:=kr
theorem kF230_104_104:callK Pg cfg 230 0 [104,104]=[(.cst false,[none,none,none]),(.cst false,[none,none,none])]:=kr
theorem kF236_2_2:callK Pg cfg 236 0 [2,2]=[(.cst false,[none]),(.cst false,[none])]:=kr
theorem kF241_104:callK Pg cfg 241 0 [104]=[(.cst false,[none,none,none])]:=kr
theorem kF268_5:callK Pg cfg 268 0 [5]=[(.cst false,[none])]:=kr
theorem kF269_5:callK Pg cfg 269 0 [5]=[(.cst false,[none])]:=kr
theorem kF270_264:callK Pg cfg 270 0 [264]=[(.cst false,[none,none])]:=kr
theorem kF271_264_264_264:callK Pg cfg 271 0 [264,264,264]=[(.cst false,[none,none]),(.cst false,[none,none]),(.cst false,[none,none])]:=kr
theorem kF272_264_264_264_264:callK Pg cfg 272 0 [264,264,264,264]=[(.cst false,[none,none]),(.cst false,[none,none]),(.cst false,[none,none]),(.cst false,[none,none])]:=kr
theorem kF273_23:callK Pg cfg 273 0 [23]=[(.cst false,[some 2])]:=kr
theorem kF275_23_264:callK Pg cfg 275 0 [23,264]=[(.cst false,[some 2]),(.cst false,[none,none])]:=kr
theorem kF276_23:callK Pg cfg 276 0 [23]=[(.cst false,[some 2])]:=kr
theorem kF277_264_264_264:callK Pg cfg 277 0 [264,264,264]=[(.cst false,[none,none]),(.cst false,[none,none]),(.cst false,[none,none])]:=kr
theorem kF278_264_264_264_264:callK Pg cfg 278 0 [264,264,264,264]=[(.cst false,[none,none]),(.cst false,[none,none]),(.cst false,[none,none]),(.cst false,[none,none])]:=kr
theorem kF279_23:callK Pg cfg 279 0 [23]=[(.cst false,[some 2])]:=kr
theorem kF282_2_2:callK Pg cfg 282 0 [2,2]=[(.cst false,[none]),(.cst false,[none])]:=kr
theorem kF285_280_285:callK Pg cfg 285 0 [280,285]=[(.cst false,[some 2]),(.cst false,[none])]:=kr
theorem kF286_280_283:callK Pg cfg 286 0 [280,283]=[(.cst false,[some 2]),(.cst false,[none,none])]:=kr
theorem kF287_141_2:callK Pg cfg 287 0 [141,2]=[(.cut 4,[none]),(.cst false,[none])]:=kr
theorem kF291_360:callK Pg cfg 291 0 [360]=[(.cut 3,[none])]:=kr
theorem kF292_211:callK Pg cfg 292 0 [211]=[(.cut 10,[none])]:=kr
theorem kF293_84:callK Pg cfg 293 0 [84]=[(.cst false,[some 3])]:=kr
theorem kF294_:callK Pg cfg 294 0 []=[]:=kr
theorem kF295_:callK Pg cfg 295 0 []=[]:=kr
theorem kF311_9:callK Pg cfg 311 0 [9]=[(.cst false,[none])]:=kr
theorem kF319_264_264_264:callK Pg cfg 319 0 [264,264,264]=[(.cst false,[none,none]),(.cst false,[none,none]),(.cst false,[none,none])]:=kr
theorem kF320_264_264_264_264:callK Pg cfg 320 0 [264,264,264,264]=[(.cst false,[none,none]),(.cst false,[none,none]),(.cst false,[none,none]),(.cst false,[none,none])]:=kr
theorem kF321_264:callK Pg cfg 321 0 [264]=[(.cst false,[none,none])]:=kr
theorem kF322_264_264_264:callK Pg cfg 322 0 [264,264,264]=[(.cst false,[none,none]),(.cst false,[none,none]),(.cst false,[none,none])]:=kr
theorem kF323_264_264_264_264:callK Pg cfg 323 0 [264,264,264,264]=[(.cst false,[none,none]),(.cst false,[none,none]),(.cst false,[none,none]),(.cst false,[none,none])]:=kr
theorem kF325_28_2_2:callK Pg cfg 325 0 [28,2,2]=[(.cst false,[some 1]),(.cst false,[none]),(.cst false,[none])]:=kr
theorem kF338_9:callK Pg cfg 338 0 [9]=[(.cst false,[none])]:=kr
theorem kF339_2:callK Pg cfg 339 0 [2]=[(.cst false,[none])]:=kr
theorem kF340_84_2_2:callK Pg cfg 340 0 [84,2,2]=[(.cst false,[some 3]),(.cst false,[none]),(.cst false,[none])]:=kr
theorem kF341_84_312:callK Pg cfg 341 0 [84,312]=[(.cst false,[some 3]),(.cst false,[none])]:=kr
theorem kF342_104:callK Pg cfg 342 0 [104]=[(.cst false,[none,none,none])]:=kr
theorem kF349_9:callK Pg cfg 349 0 [9]=[(.cst false,[none])]:=kr
theorem kF354_264_264_264:callK Pg cfg 354 0 [264,264,264]=[(.cst false,[none,none]),(.cst false,[none,none]),(.cst false,[none,none])]:=kr
theorem kF360_360_360:callK Pg cfg 360 0 [360,360]=[(.cut 3,[none]),(.cut 3,[none])]:=kr
theorem kF361_84_312:callK Pg cfg 361 0 [84,312]=[(.cst false,[some 3]),(.cst false,[none])]:=kr
theorem kF36_56_3:callK Pg cfg 36 0 [56,3]=[(.cst false,[none,none,some 2,some 2]),(.cst false,[none])]:=kr
theorem kF38_56:callK Pg cfg 38 0 [56]=[(.cst false,[none,none,some 2,some 2])]:=kr
theorem kF39_26_26:callK Pg cfg 39 0 [26,26]=[(.cst false,[none,none,some 2,some 2]),(.cst false,[none,none,some 2,some 2])]:=kr
theorem kF41_28_28:callK Pg cfg 41 0 [28,28]=[(.cst false,[some 1]),(.cst false,[some 1])]:=kr
theorem kF59_81_3:callK Pg cfg 59 0 [81,3]=[(.cst false,[some 3]),(.cst false,[none])]:=kr
theorem kF60_26_84_2_2:callK Pg cfg 60 0 [26,84,2,2]=[(.cst false,[none,none,some 2,some 2]),(.cst false,[some 3]),(.cst false,[none]),(.cst false,[none])]:=kr
theorem kF61_81:callK Pg cfg 61 0 [81]=[(.cst false,[some 3])]:=kr
theorem kF62_26_84_2_2:callK Pg cfg 62 0 [26,84,2,2]=[(.cst false,[none,none,some 2,some 2]),(.cst false,[some 3]),(.cst false,[none]),(.cst false,[none])]:=kr
theorem kF63_84_84:callK Pg cfg 63 0 [84,84]=[(.cst false,[some 3]),(.cst false,[some 3])]:=kr
theorem kF84_141:callK Pg cfg 84 0 [141]=[(.cut 4,[none])]:=kr
theorem kF87_26:callK Pg cfg 87 0 [26]=[(.cst false,[none,none,some 2,some 2])]:=kr
theorem kF94_2_2_2:callK Pg cfg 94 0 [2,2,2]=[(.cst false,[none]),(.cst false,[none]),(.cst false,[none])]:=kr
theorem kF98_2_2_2:callK Pg cfg 98 0 [2,2,2]=[(.cst false,[none]),(.cst false,[none]),(.cst false,[none])]:=kr
theorem qEF264:∀(a0:Int) (a1:Int) (b0:Int) (b1:Int),binAgg Pg 264 .eql [.int .i64 a0,.int .i64 a1] [.int .i64 b0,.int .i64 b1]=some (.bool ((a0==b0)&&(a1==b1))):=by intros;kernel_rfl
theorem qEF283:∀(a0:Int) (a1:Int) (b0:Int) (b1:Int),binAgg Pg 283 .eql [.int .i64 a0,.int .i64 a1] [.int .i64 b0,.int .i64 b1]=some (.bool ((a0==b0)&&(a1==b1))):=by intros;kernel_rfl
theorem rF10:resK Pg (Try.f10.results.toList.zip Try.f10.resultTypes.toList)=[(.tmp 8,[none],none)]:=kr
theorem rF107:resK Pg (Try.f107.results.toList.zip Try.f107.resultTypes.toList)=[(.tmp 2,[some 1],none)]:=kr
theorem rF110:resK Pg (Try.f110.results.toList.zip Try.f110.resultTypes.toList)=[(.tmp 4,[none],none)]:=kr
theorem rF111:resK Pg (Try.f111.results.toList.zip Try.f111.resultTypes.toList)=[(.tmp 4,[none],none)]:=kr
theorem rF113:resK Pg (Try.f113.results.toList.zip Try.f113.resultTypes.toList)=[(.tmp 2,[some 2],none)]:=kr
theorem rF114:resK Pg (Try.f114.results.toList.zip Try.f114.resultTypes.toList)=[(.tmp 2,[some 2],none)]:=kr
theorem rF115:resK Pg (Try.f115.results.toList.zip Try.f115.resultTypes.toList)=[(.tmp 4,[none],none)]:=kr
theorem rF116:resK Pg (Try.f116.results.toList.zip Try.f116.resultTypes.toList)=[(.tmp 4,[none],none)]:=kr
theorem rF117:resK Pg (Try.f117.results.toList.zip Try.f117.resultTypes.toList)=[(.tmp 2,[some 1],none)]:=kr
theorem rF131:resK Pg (Try.f131.results.toList.zip Try.f131.resultTypes.toList)=[(.tmp 4,[none],none)]:=kr
theorem rF134:resK Pg (Try.f134.results.toList.zip Try.f134.resultTypes.toList)=[(.tmp 2,[some 1],none)]:=kr
theorem rF135:resK Pg (Try.f135.results.toList.zip Try.f135.resultTypes.toList)=[(.tmp 4,[none],none)]:=kr
theorem rF136:resK Pg (Try.f136.results.toList.zip Try.f136.resultTypes.toList)=[(.tmp 10,[none],none),(.tmp 11,[none],none)]:=kr
theorem rF137:resK Pg (Try.f137.results.toList.zip Try.f137.resultTypes.toList)=[(.cell 2 104,[none,none,none],some (true,3))]:=kr
theorem rF138:resK Pg (Try.f138.results.toList.zip Try.f138.resultTypes.toList)=[(.tmp 10,[none],none),(.tmp 11,[none],none)]:=kr
theorem rF139:resK Pg (Try.f139.results.toList.zip Try.f139.resultTypes.toList)=[(.tmp 4,[none],none)]:=kr
theorem rF142:resK Pg (Try.f142.results.toList.zip Try.f142.resultTypes.toList)=[(.tmp 2,[some 1],none)]:=kr
theorem rF171:resK Pg (Try.f171.results.toList.zip Try.f171.resultTypes.toList)=[(.tmp 2,[none],none)]:=kr
theorem rF172:resK Pg (Try.f172.results.toList.zip Try.f172.resultTypes.toList)=[(.tmp 2,[none],none)]:=kr
theorem rF173:resK Pg (Try.f173.results.toList.zip Try.f173.resultTypes.toList)=[(.tmp 4,[some 2],none),(.tmp 5,[none],none)]:=kr
theorem rF174:resK Pg (Try.f174.results.toList.zip Try.f174.resultTypes.toList)=[(.tmp 2,[none],none)]:=kr
theorem rF178:resK Pg (Try.f178.results.toList.zip Try.f178.resultTypes.toList)=[(.tmp 4,[none],none)]:=kr
theorem rF179:resK Pg (Try.f179.results.toList.zip Try.f179.resultTypes.toList)=[(.tmp 2,[none],none)]:=kr
theorem rF180:resK Pg (Try.f180.results.toList.zip Try.f180.resultTypes.toList)=[(.tmp 4,[some 2],none),(.tmp 5,[none],none)]:=kr
theorem rF181:resK Pg (Try.f181.results.toList.zip Try.f181.resultTypes.toList)=[(.tmp 2,[none],none)]:=kr
theorem rF192:resK Pg (Try.f192.results.toList.zip Try.f192.resultTypes.toList)=[(.tmp 2,[some 1],none)]:=kr
theorem rF196:resK Pg (Try.f196.results.toList.zip Try.f196.resultTypes.toList)=[(.tmp 2,[some 2],none)]:=kr
theorem rF197:resK Pg (Try.f197.results.toList.zip Try.f197.resultTypes.toList)=[(.tmp 4,[none],none)]:=kr
theorem rF198:resK Pg (Try.f198.results.toList.zip Try.f198.resultTypes.toList)=[(.tmp 4,[none],none)]:=kr
theorem rF199:resK Pg (Try.f199.results.toList.zip Try.f199.resultTypes.toList)=[(.tmp 4,[none],none)]:=kr
theorem rF201:resK Pg (Try.f201.results.toList.zip Try.f201.resultTypes.toList)=[(.tmp 4,[none],none)]:=kr
theorem rF204:resK Pg (Try.f204.results.toList.zip Try.f204.resultTypes.toList)=[(.cell 2 264,[none,none],some (true,2))]:=kr
theorem rF205:resK Pg (Try.f205.results.toList.zip Try.f205.resultTypes.toList)=[(.cell 2 257,[none,some 1],some (true,2))]:=kr
theorem rF206:resK Pg (Try.f206.results.toList.zip Try.f206.resultTypes.toList)=[(.tmp 4,[none],none)]:=kr
theorem rF207:resK Pg (Try.f207.results.toList.zip Try.f207.resultTypes.toList)=[(.tmp 4,[none],none)]:=kr
theorem rF218:resK Pg (Try.f218.results.toList.zip Try.f218.resultTypes.toList)=[(.tmp 4,[none],none)]:=kr
theorem rF222:resK Pg (Try.f222.results.toList.zip Try.f222.resultTypes.toList)=[(.tmp 4,[none],none)]:=kr
theorem rF223:resK Pg (Try.f223.results.toList.zip Try.f223.resultTypes.toList)=[(.tmp 2,[none],none)]:=kr
theorem rF224:resK Pg (Try.f224.results.toList.zip Try.f224.resultTypes.toList)=[(.tmp 2,[some 1],none)]:=kr
theorem rF225:resK Pg (Try.f225.results.toList.zip Try.f225.resultTypes.toList)=[(.tmp 2,[none],none)]:=kr
theorem rF226:resK Pg (Try.f226.results.toList.zip Try.f226.resultTypes.toList)=[(.tmp 2,[none],none)]:=kr
theorem rF227:resK Pg (Try.f227.results.toList.zip Try.f227.resultTypes.toList)=[(.tmp 4,[none],none)]:=kr
theorem rF230:resK Pg (Try.f230.results.toList.zip Try.f230.resultTypes.toList)=[(.tmp 4,[none],none)]:=kr
theorem rF236:resK Pg (Try.f236.results.toList.zip Try.f236.resultTypes.toList)=[(.tmp 4,[none],none),(.tmp 5,[none],none)]:=kr
theorem rF241:resK Pg (Try.f241.results.toList.zip Try.f241.resultTypes.toList)=[(.tmp 2,[none],none)]:=kr
theorem rF268:resK Pg (Try.f268.results.toList.zip Try.f268.resultTypes.toList)=[(.tmp 2,[none],none)]:=kr
theorem rF269:resK Pg (Try.f269.results.toList.zip Try.f269.resultTypes.toList)=[(.tmp 2,[none],none)]:=kr
theorem rF270:resK Pg (Try.f270.results.toList.zip Try.f270.resultTypes.toList)=[(.tmp 2,[none],none)]:=kr
theorem rF271:resK Pg (Try.f271.results.toList.zip Try.f271.resultTypes.toList)=[(.tmp 6,[none],none)]:=kr
theorem rF272:resK Pg (Try.f272.results.toList.zip Try.f272.resultTypes.toList)=[(.tmp 8,[none],none)]:=kr
theorem rF273:resK Pg (Try.f273.results.toList.zip Try.f273.resultTypes.toList)=[(.tmp 2,[none],none)]:=kr
theorem rF275:resK Pg (Try.f275.results.toList.zip Try.f275.resultTypes.toList)=[(.tmp 4,[none],none)]:=kr
theorem rF276:resK Pg (Try.f276.results.toList.zip Try.f276.resultTypes.toList)=[(.tmp 2,[none],none)]:=kr
theorem rF277:resK Pg (Try.f277.results.toList.zip Try.f277.resultTypes.toList)=[(.tmp 6,[none],none)]:=kr
theorem rF278:resK Pg (Try.f278.results.toList.zip Try.f278.resultTypes.toList)=[(.tmp 8,[none],none)]:=kr
theorem rF279:resK Pg (Try.f279.results.toList.zip Try.f279.resultTypes.toList)=[(.tmp 2,[none],none)]:=kr
theorem rF282:resK Pg (Try.f282.results.toList.zip Try.f282.resultTypes.toList)=[(.tmp 4,[none],none)]:=kr
theorem rF285:resK Pg (Try.f285.results.toList.zip Try.f285.resultTypes.toList)=[(.tmp 4,[none],none)]:=kr
theorem rF286:resK Pg (Try.f286.results.toList.zip Try.f286.resultTypes.toList)=[(.tmp 4,[none],none)]:=kr
theorem rF287:resK Pg (Try.f287.results.toList.zip Try.f287.resultTypes.toList)=[(.tmp 4,[some 1],none)]:=kr
theorem rF291:resK Pg (Try.f291.results.toList.zip Try.f291.resultTypes.toList)=[(.tmp 2,[none],none)]:=kr
theorem rF292:resK Pg (Try.f292.results.toList.zip Try.f292.resultTypes.toList)=[(.tmp 2,[none],none)]:=kr
theorem rF293:resK Pg (Try.f293.results.toList.zip Try.f293.resultTypes.toList)=[(.tmp 2,[none],none)]:=kr
theorem rF294:resK Pg (Try.f294.results.toList.zip Try.f294.resultTypes.toList)=[(.tmp 0,[some 1],none)]:=kr
theorem rF295:resK Pg (Try.f295.results.toList.zip Try.f295.resultTypes.toList)=[(.tmp 0,[some 1],none)]:=kr
theorem rF311:resK Pg (Try.f311.results.toList.zip Try.f311.resultTypes.toList)=[(.tmp 2,[none],none),(.tmp 3,[none],none)]:=kr
theorem rF319:resK Pg (Try.f319.results.toList.zip Try.f319.resultTypes.toList)=[(.tmp 6,[none],none)]:=kr
theorem rF320:resK Pg (Try.f320.results.toList.zip Try.f320.resultTypes.toList)=[(.tmp 8,[none],none)]:=kr
theorem rF321:resK Pg (Try.f321.results.toList.zip Try.f321.resultTypes.toList)=[(.tmp 2,[none],none)]:=kr
theorem rF322:resK Pg (Try.f322.results.toList.zip Try.f322.resultTypes.toList)=[(.tmp 6,[none],none)]:=kr
theorem rF323:resK Pg (Try.f323.results.toList.zip Try.f323.resultTypes.toList)=[(.tmp 8,[none],none)]:=kr
theorem rF325:resK Pg (Try.f325.results.toList.zip Try.f325.resultTypes.toList)=[(.tmp 6,[none],none)]:=kr
theorem rF338:resK Pg (Try.f338.results.toList.zip Try.f338.resultTypes.toList)=[(.tmp 2,[none],none)]:=kr
theorem rF339:resK Pg (Try.f339.results.toList.zip Try.f339.resultTypes.toList)=[(.tmp 2,[none],none)]:=kr
theorem rF340:resK Pg (Try.f340.results.toList.zip Try.f340.resultTypes.toList)=[(.tmp 6,[none],none)]:=kr
theorem rF341:resK Pg (Try.f341.results.toList.zip Try.f341.resultTypes.toList)=[(.tmp 4,[none],none)]:=kr
theorem rF342:resK Pg (Try.f342.results.toList.zip Try.f342.resultTypes.toList)=[(.tmp 2,[none],none)]:=kr
theorem rF349:resK Pg (Try.f349.results.toList.zip Try.f349.resultTypes.toList)=[(.tmp 2,[none],none),(.tmp 3,[none],none),(.tmp 4,[none],none),(.tmp 5,[none],none)]:=kr
theorem rF354:resK Pg (Try.f354.results.toList.zip Try.f354.resultTypes.toList)=[(.tmp 6,[none],none)]:=kr
theorem rF36:resK Pg (Try.f36.results.toList.zip Try.f36.resultTypes.toList)=[(.tmp 4,[none],none)]:=kr
theorem rF360:resK Pg (Try.f360.results.toList.zip Try.f360.resultTypes.toList)=[(.tmp 4,[none],none)]:=kr
theorem rF361:resK Pg (Try.f361.results.toList.zip Try.f361.resultTypes.toList)=[(.tmp 4,[none],none)]:=kr
theorem rF38:resK Pg (Try.f38.results.toList.zip Try.f38.resultTypes.toList)=[(.cell 2 26,[none,none,some 2,some 2],some (true,4))]:=kr
theorem rF39:resK Pg (Try.f39.results.toList.zip Try.f39.resultTypes.toList)=[(.tmp 4,[none],none)]:=kr
theorem rF41:resK Pg (Try.f41.results.toList.zip Try.f41.resultTypes.toList)=[(.tmp 4,[none],none)]:=kr
theorem rF59:resK Pg (Try.f59.results.toList.zip Try.f59.resultTypes.toList)=[(.tmp 4,[none],none)]:=kr
theorem rF60:resK Pg (Try.f60.results.toList.zip Try.f60.resultTypes.toList)=[(.tmp 8,[none],none),(.tmp 9,[none],none)]:=kr
theorem rF61:resK Pg (Try.f61.results.toList.zip Try.f61.resultTypes.toList)=[(.tmp 2,[some 3],none)]:=kr
theorem rF62:resK Pg (Try.f62.results.toList.zip Try.f62.resultTypes.toList)=[(.tmp 8,[none],none),(.tmp 9,[none],none)]:=kr
theorem rF63:resK Pg (Try.f63.results.toList.zip Try.f63.resultTypes.toList)=[(.tmp 4,[none],none)]:=kr
theorem rF84:resK Pg (Try.f84.results.toList.zip Try.f84.resultTypes.toList)=[(.tmp 2,[none],none)]:=kr
theorem rF87:resK Pg (Try.f87.results.toList.zip Try.f87.resultTypes.toList)=[(.tmp 2,[none],none)]:=kr
theorem rF94:resK Pg (Try.f94.results.toList.zip Try.f94.resultTypes.toList)=[(.tmp 6,[none],none)]:=kr
theorem rF98:resK Pg (Try.f98.results.toList.zip Try.f98.resultTypes.toList)=[(.tmp 6,[none],none)]:=kr
theorem sF23:sliceF Pg 23=some (264,2,[none,none],true,16,[z0,z0]):=kr
theorem sF24:sliceF Pg 24=some (257,2,[none,some 1],true,40,[z1,.nil]):=kr
theorem sF279:sliceF Pg 279=some (280,1,[some 2],false,24,[.nil]):=kr
theorem sF28:sliceF Pg 28=some (2,1,[none],false,8,[z0]):=kr
theorem sF280:sliceF Pg 280=some (283,2,[none,none],true,16,[z0,z0]):=kr
theorem sF304:sliceF Pg 304=some (9,1,[none],false,16,[z1]):=kr
theorem sF41:sliceF Pg 41=some (28,1,[some 1],false,24,[.nil]):=kr
theorem sF53:sliceF Pg 53=some (291,2,[none,none],true,16,[z0,z0]):=kr
theorem sF54:sliceF Pg 54=some (287,2,[none,some 1],true,40,[z1,.nil]):=kr
theorem sF81:sliceF Pg 81=some (156,3,[none,none,none],true,32,[z1,z0,z0]):=kr
theorem sF84:sliceF Pg 84=some (104,3,[none,none,none],true,32,[z1,z0,z0]):=kr
theorem tF104:tyF Pg 104=some ([z1,z0,z0],[none,none,none],true,3):=kr
theorem tF156:tyF Pg 156=some ([z1,z0,z0],[none,none,none],true,3):=kr
theorem tF2:tyF Pg 2=some ([z0],[none],false,1):=kr
theorem tF215:tyF Pg 215=some ([.nil,z0,.nil,z0,.nil,.im 0 (.sc (.bool false)),.nil,z0,z0,z0],[some 1,none,some 3,none,some 1,none,some 1,none,none,none],true,10):=kr
theorem tF221:tyF Pg 221=some ([.nil,.nil,z0,z0,z0,.nil,.im 0 (.sc (.bool false))],[some 1,some 1,none,none,none,some 1,none],true,7):=kr
theorem tF23:tyF Pg 23=some ([.nil],[some 2],false,1):=kr
theorem tF24:tyF Pg 24=some ([.nil],[some 2],false,1):=kr
theorem tF257:tyF Pg 257=some ([z1,.nil],[none,some 1],true,2):=kr
theorem tF26:tyF Pg 26=some ([z0,z0,.nil,.nil],[none,none,some 2,some 2],true,4):=kr
theorem tF264:tyF Pg 264=some ([z0,z0],[none,none],true,2):=kr
theorem tF279:tyF Pg 279=some ([.nil],[some 1],false,1):=kr
theorem tF28:tyF Pg 28=some ([.nil],[some 1],false,1):=kr
theorem tF280:tyF Pg 280=some ([.nil],[some 2],false,1):=kr
theorem tF283:tyF Pg 283=some ([z0,z0],[none,none],true,2):=kr
theorem tF287:tyF Pg 287=some ([z1,.nil],[none,some 1],true,2):=kr
theorem tF291:tyF Pg 291=some ([z0,z0],[none,none],true,2):=kr
theorem tF3:tyF Pg 3=some ([z0],[none],false,1):=kr
theorem tF4:tyF Pg 4=some ([.im 0 (.sc (.bool false))],[none],false,1):=kr
theorem tF41:tyF Pg 41=some ([.nil],[some 1],false,1):=kr
theorem tF53:tyF Pg 53=some ([.nil],[some 2],false,1):=kr
theorem tF54:tyF Pg 54=some ([.nil],[some 2],false,1):=kr
theorem tF56:tyF Pg 56=some ([z0,z0,.nil,.nil],[none,none,some 2,some 2],true,4):=kr
theorem tF84:tyF Pg 84=some ([.nil],[some 3],false,1):=kr
theorem tF9:tyF Pg 9=some ([z1],[none],false,1):=kr
theorem uF23:Pg.underlying 23=some (.slice 264):=kr
theorem uF24:Pg.underlying 24=some (.slice 257):=kr
theorem uF279:Pg.underlying 279=some (.slice 280):=kr
theorem uF28:Pg.underlying 28=some (.slice 2):=kr
theorem uF280:Pg.underlying 280=some (.slice 283):=kr
theorem uF304:Pg.underlying 304=some (.slice 9):=kr
theorem uF41:Pg.underlying 41=some (.slice 28):=kr
theorem uF53:Pg.underlying 53=some (.slice 291):=kr
theorem uF54:Pg.underlying 54=some (.slice 287):=kr
theorem uF81:Pg.underlying 81=some (.slice 156):=kr
theorem uF84:Pg.underlying 84=some (.slice 104):=kr
theorem uF9:Pg.underlying 9=some .string:=kr
abbrev FX (i:Nat) (a:List Arg) (r:Res×List Out):Prop:=FL Try.prog cfg i a=some r
theorem L_laws_szPointS {a_0:(List S_Point)} {left_1:Int} {r:Int} (h:laws_szPointS a_0 left_1=some r):FX 110 [.im 2 false [W 2 e_S_Point a_0],.im 2 false [I left_1]] (B0 [(false,[.im 0 (I r)])]):=by
 unfold laws_szPointS at h
 refine gn 12 Try.func110 rfl ?_
 refine gs<|g0 j j (q (oAsI j j)<|nl)<|us<|gs<|g0 j j (q (oMv j j)<|q (oMv j j)<|q (oLnI j j uF53 j)<|q (oBi j j j j)<|q (oAsI j j)<|nl)<|us<|gs<|gs<|g0 j j (q (oMv j j)<|q (oBi j j j j)<|nl)<|us<|gc h j iDec (fun hc1 h=>?_) fun hc1 h=>?_
 ·refine gs<|g0 j j (q (oAsI j j)<|nl)<|us<|Go.ret (Unw.ret ?_)
  cases h
  exact fr rF110 j
 ·refine Go.skip<|us<|gs<|g0 j j (q (oMv j j)<|q (oAsI j j)<|nl)<|us<|Go.ret (Unw.ret ?_)
  cases h
  exact fr rF110 j
theorem L_laws_szInt64S {a_0:(List Int)} {left_1:Int} {r:Int} (h:laws_szInt64S a_0 left_1=some r):FX 131 [.im 2 false [W 1 eI a_0],.im 2 false [I left_1]] (B0 [(false,[.im 0 (I r)])]):=by
 unfold laws_szInt64S at h
 refine gn 12 Try.func131 rfl ?_
 refine gs<|g0 j j (q (oAsI j j)<|nl)<|us<|gs<|g0 j j (q (oMv j j)<|q (oMv j j)<|q (oLnI j j uF28 j)<|q (oBi j j j j)<|q (oAsI j j)<|nl)<|us<|gs<|gs<|g0 j j (q (oMv j j)<|q (oBi j j j j)<|nl)<|us<|gc h j iDec (fun hc1 h=>?_) fun hc1 h=>?_
 ·refine gs<|g0 j j (q (oAsI j j)<|nl)<|us<|Go.ret (Unw.ret ?_)
  cases h
  exact fr rF131 j
 ·refine Go.skip<|us<|gs<|g0 j j (q (oMv j j)<|q (oAsI j j)<|nl)<|us<|Go.ret (Unw.ret ?_)
  cases h
  exact fr rF131 j
theorem L_laws_szFace {a_0:S_Face} {left_1:Int} {r:Int} (h:laws_szFace a_0 left_1=some r):FX 201 [.im 2 true (u_S_Face a_0),.im 2 false [I left_1]] (B0 [(false,[.im 0 (I r)])]):=by
 unfold laws_szFace at h
 refine gn 19 Try.func201 rfl ?_
 refine gs<|g0 j j (q (oBx j tF287 j (tkI (tkI tk0)))<|q (oAsI j j)<|nl)<|us<|gs<|g0 j j (q (oMv j j)<|q (oFA (r':=.mp 2 0 0) j fF287_0 j j)<|q (oLd (cs:=[.im 0 _]) j tF9 j j)<|q (oLnS j j uF9 j)<|q (oBi j j j j)<|q (oAsI j j)<|nl)<|us<|gs<|gs<|g0 j j (q (oMv j j)<|q (oBi j j j j)<|nl)<|us<|gc h j iDec (fun hc1 h=>?_) fun hc1 h=>?_
 ·refine gs<|g0 j j (q (oAsI j j)<|nl)<|us<|Go.ret (Unw.ret ?_)
  cases h
  exact fr rF201 j
 ·refine Go.skip<|us<|gs<|?_
  obtain ⟨x15,hx15,h⟩:=bs h
  refine g0 j j (q (oFA (r':=.mp 2 0 1) j fF287_1 j j)<|q (oLd (cs:=[.im 2 _]) j tF28 j j)<|q (oMv j j)<|q (oCa (xs:=[.v false [.im 2 _],.v false [.im 0 _]]) (vs:=[(false,[.im 0 _])]) (v:=.v false [.im 0 _]) (L_laws_szInt64S hx15) (.inl j) j kF131_28_3 j (ppC j (ppC j pp0)) j j pb0 j j j)<|q (oAsI j j)<|nl)<|us<|gs<|gs<|g0 j j (q (oMv j j)<|q (oBi j j j j)<|nl)<|us<|gc h j iDec (fun hc2 h=>?_) fun hc2 h=>?_
  ·refine gs<|g0 j j (q (oAsI j j)<|nl)<|us<|Go.ret (Unw.ret ?_)
   cases h
   exact fr rF201 j
  ·refine Go.skip<|us<|gs<|g0 j j (q (oMv j j)<|q (oAsI j j)<|nl)<|us<|Go.ret (Unw.ret ?_)
   cases h
   exact fr rF201 j
theorem L_laws_szFaceS {a_0:(List S_Face)} {left_1:Int} {r:Int} (h:laws_szFaceS a_0 left_1=some r):FX 111 [.im 2 false [W 2 e_S_Face a_0],.im 2 false [I left_1]] (B0 [(false,[.im 0 (I r)])]):=by
 unfold laws_szFaceS at h
 refine gn 27 Try.func111 rfl ?_
 refine gs<|g0 j j (q (oAsI j j)<|nl)<|us<|gs<|g0 j j (q (oMv j j)<|q (oMv j j)<|q (oLnI j j uF54 j)<|q (oBi j j j j)<|q (oAsI j j)<|nl)<|us<|gs<|gs<|g0 j j (q (oMv j j)<|q (oBi j j j j)<|nl)<|us<|gc h j iDec (fun hc1 h=>?_) fun hc1 h=>?_
 ·refine gs<|g0 j j (q (oAsI j j)<|nl)<|us<|Go.ret (Unw.ret ?_)
  cases h
  exact fr rF111 j
 ·refine Go.skip<|us<|gs<|gs<|g0 j j (q (oAsI j j)<|nl)<|us<|Go.block<|?_
  obtain ⟨o,hl,h⟩:=bs h
  refine gl c111 j _ (fun (s:(Int×Int))=>match s with | (left_1_l5,i_5_l5)=>mk [(0,D 2 (W 2 e_S_Face a_0)),(1,iv left_1_l5),(5,iv i_5_l5)] []) (fun (o:(Int ⊕ Int)) (p:Ex×St)=>match o with | (.inl left_1_e0_5)=>p.1= .exit 0∧p.2.norm ([1],[])=mk [(1,iv left_1_e0_5)] [] | (.inr r2)=>p.1= .ret∧fin Try.prog cfg 111 Try.f111 [.im 2 false [W 2 e_S_Face a_0],.im 2 false [I left_1]] p.2=some (B0 [(false,[.im 0 (I r2)])])) hl (by kernel_rfl) ?_ ?_ ?_
  ·intro o p hp e
   rcases o with left_1_e0_5 | r2<;>exact nomatch (hp.1.symm.trans e)
  ·rintro ⟨left_1_l5,i_5_l5⟩ o h
   unfold laws_szFaceS_l5 at h
   dsimp only at h
   refine gs<|gs<|g0 j j (q (oMv j j)<|q (oMv j j)<|q (oLnI j j uF54 j)<|q (oBi j j j j)<|nl)<|us<|gc h j iDec (fun hc6 h=>?_) fun hc6 h=>?_
   ·refine Go.skip<|us<|gs<|Go.block<|gs<|?_
    obtain ⟨x20,hx20,h⟩:=bs h
    obtain ⟨x23,hx23,h⟩:=bs h
    refine g0 j j (q (oMv j j)<|q (oMv j j)<|q (oIAI j hx20 sF54 j j)<|q (oLd (cs:=[.im 2 _,.im 2 _]) j tF287 j j)<|q (oMv j j)<|q (oCa (xs:=[.v true [.im 2 _,.im 2 _],.v false [.im 0 _]]) (vs:=[(false,[.im 0 _])]) (v:=.v false [.im 0 _]) (L_laws_szFace hx23) (.inl j) j kF201_287_3 j (ppC j (ppC j pp0)) j j pb0 j j j)<|q (oAsI j j)<|nl)<|us<|gs<|g0 j j (q (oMv j j)<|q (oBi j j j j)<|nl)<|us<|gc h j iDec (fun hc7 h=>?_) fun hc7 h=>?_
    ·refine gs<|g0 j j (q (oAsI j j)<|nl)<|us<|Go.ret (Unw.ret ?_)
     cases h
     exact ⟨j,(fo rF111 j)⟩
    ·refine Go.skip<|Unw.blk<|us<|g0 j j (q (oMv j j)<|q (oBi j j j j)<|q (oAsI j j)<|nl)<|Unw.nil<|?_
     cases h
     exact ⟨j,(by kernel_rfl)⟩
   ·refine Go.exit<|ux<|Unw.nil<|?_
    cases h
    exact ⟨j,(by kernel_rfl)⟩
  ·rintro ⟨e,st⟩ hp
   rcases o with left_1_e0_5 | r2
   ·dsimp only at h
    obtain ⟨he,hst⟩:=hp
    obtain rfl:e= .exit 0:=he
    refine Unw.blkx<|us<|gs<|g2 c111 j j hst (q (oMv j j)<|q (oAsI j j)<|nl)<|us<|Go.ret (Unw.ret ?_)
    cases h
    exact fr rF111 j
   ·dsimp only at h
    obtain ⟨he,hfin⟩:=hp
    obtain rfl:e= .ret:=he
    cases h
    exact Unw.ret (Fin_ret hfin)
theorem L_laws_szDrawing {a_0:S_Drawing} {left_1:Int} {r:Int} (h:laws_szDrawing a_0 left_1=some r):FX 36 [.im 2 true (u_S_Drawing a_0),.im 2 false [I left_1]] (B0 [(false,[.im 0 (I r)])]):=by
 unfold laws_szDrawing at h
 refine gn 18 Try.func36 rfl ?_
 refine gs<|g0 j j (q (oBx j tF56 j (tkI (tkI (tkI (tkI tk0)))))<|q (oAsI j j)<|nl)<|us<|gs<|?_
 obtain ⟨x8,hx8,h⟩:=bs h
 refine g0 j j (q (oFA (r':=.mp 2 0 2) j fF56_2 j j)<|q (oLd (cs:=[.im 2 _]) j tF53 j j)<|q (oMv j j)<|q (oCa (xs:=[.v false [.im 2 _],.v false [.im 2 _]]) (vs:=[(false,[.im 0 _])]) (v:=.v false [.im 0 _]) (L_laws_szPointS hx8) (.inl j) j kF110_53_3 j (ppC j (ppC j pp0)) j j pb0 j j j)<|q (oAsI j j)<|nl)<|us<|gs<|gs<|g0 j j (q (oMv j j)<|q (oBi j j j j)<|nl)<|us<|gc h j iDec (fun hc1 h=>?_) fun hc1 h=>?_
 ·refine gs<|g0 j j (q (oAsI j j)<|nl)<|us<|Go.ret (Unw.ret ?_)
  cases h
  exact fr rF36 j
 ·refine Go.skip<|us<|gs<|?_
  obtain ⟨x14,hx14,h⟩:=bs h
  refine g0 j j (q (oFA (r':=.mp 2 0 3) j fF56_3 j j)<|q (oLd (cs:=[.im 2 _]) j tF54 j j)<|q (oMv j j)<|q (oCa (xs:=[.v false [.im 2 _],.v false [.im 0 _]]) (vs:=[(false,[.im 0 _])]) (v:=.v false [.im 0 _]) (L_laws_szFaceS hx14) (.inl j) j kF111_54_3 j (ppC j (ppC j pp0)) j j pb0 j j j)<|q (oAsI j j)<|nl)<|us<|gs<|gs<|g0 j j (q (oMv j j)<|q (oBi j j j j)<|nl)<|us<|gc h j iDec (fun hc2 h=>?_) fun hc2 h=>?_
  ·refine gs<|g0 j j (q (oAsI j j)<|nl)<|us<|Go.ret (Unw.ret ?_)
   cases h
   exact fr rF36 j
  ·refine Go.skip<|us<|gs<|g0 j j (q (oMv j j)<|q (oAsI j j)<|nl)<|us<|Go.ret (Unw.ret ?_)
   cases h
   exact fr rF36 j
theorem L_laws_szVeneer {a_0:S_Veneer} {left_1:Int} {r:Int} (h:laws_szVeneer a_0 left_1=some r):FX 135 [.im 2 true (u_S_Veneer a_0),.im 2 false [I left_1]] (B0 [(false,[.im 0 (I r)])]):=by
 unfold laws_szVeneer at h
 refine gn 13 Try.func135 rfl ?_
 refine gs<|g0 j j (q (oBx j tF156 j (tkI (tkI (tkI tk0))))<|q (oAsI j j)<|nl)<|us<|gs<|g0 j j (q (oMv j j)<|q (oFA (r':=.mp 2 0 0) j fF156_0 j j)<|q (oLd (cs:=[.im 0 _]) j tF9 j j)<|q (oLnS j j uF9 j)<|q (oBi j j j j)<|q (oAsI j j)<|nl)<|us<|gs<|gs<|g0 j j (q (oMv j j)<|q (oBi j j j j)<|nl)<|us<|gc h j iDec (fun hc1 h=>?_) fun hc1 h=>?_
 ·refine gs<|g0 j j (q (oAsI j j)<|nl)<|us<|Go.ret (Unw.ret ?_)
  cases h
  exact fr rF135 j
 ·refine Go.skip<|us<|gs<|g0 j j (q (oMv j j)<|q (oAsI j j)<|nl)<|us<|Go.ret (Unw.ret ?_)
  cases h
  exact fr rF135 j
theorem L_laws_szVeneerS {a_0:(List S_Veneer)} {left_1:Int} {r:Int} (h:laws_szVeneerS a_0 left_1=some r):FX 59 [.im 2 false [W 3 e_S_Veneer a_0],.im 2 false [I left_1]] (B0 [(false,[.im 0 (I r)])]):=by
 unfold laws_szVeneerS at h
 refine gn 27 Try.func59 rfl ?_
 refine gs<|g0 j j (q (oAsI j j)<|nl)<|us<|gs<|g0 j j (q (oMv j j)<|q (oMv j j)<|q (oLnI j j uF81 j)<|q (oBi j j j j)<|q (oAsI j j)<|nl)<|us<|gs<|gs<|g0 j j (q (oMv j j)<|q (oBi j j j j)<|nl)<|us<|gc h j iDec (fun hc1 h=>?_) fun hc1 h=>?_
 ·refine gs<|g0 j j (q (oAsI j j)<|nl)<|us<|Go.ret (Unw.ret ?_)
  cases h
  exact fr rF59 j
 ·refine Go.skip<|us<|gs<|gs<|g0 j j (q (oAsI j j)<|nl)<|us<|Go.block<|?_
  obtain ⟨o,hl,h⟩:=bs h
  refine gl c59 j _ (fun (s:(Int×Int))=>match s with | (left_1_l5,i_5_l5)=>mk [(0,D 2 (W 3 e_S_Veneer a_0)),(1,iv left_1_l5),(5,iv i_5_l5)] []) (fun (o:(Int ⊕ Int)) (p:Ex×St)=>match o with | (.inl left_1_e0_5)=>p.1= .exit 0∧p.2.norm ([1],[])=mk [(1,iv left_1_e0_5)] [] | (.inr r2)=>p.1= .ret∧fin Try.prog cfg 59 Try.f59 [.im 2 false [W 3 e_S_Veneer a_0],.im 2 false [I left_1]] p.2=some (B0 [(false,[.im 0 (I r2)])])) hl (by kernel_rfl) ?_ ?_ ?_
  ·intro o p hp e
   rcases o with left_1_e0_5 | r2<;>exact nomatch (hp.1.symm.trans e)
  ·rintro ⟨left_1_l5,i_5_l5⟩ o h
   unfold laws_szVeneerS_l5 at h
   dsimp only at h
   refine gs<|gs<|g0 j j (q (oMv j j)<|q (oMv j j)<|q (oLnI j j uF81 j)<|q (oBi j j j j)<|nl)<|us<|gc h j iDec (fun hc6 h=>?_) fun hc6 h=>?_
   ·refine Go.skip<|us<|gs<|Go.block<|gs<|?_
    obtain ⟨x20,hx20,h⟩:=bs h
    obtain ⟨x23,hx23,h⟩:=bs h
    refine g0 j j (q (oMv j j)<|q (oMv j j)<|q (oIAI j hx20 sF81 j j)<|q (oLd (cs:=[.im 2 _,.im 2 _,.im 2 _]) j tF156 j j)<|q (oMv j j)<|q (oCa (xs:=[.v true [.im 2 _,.im 2 _,.im 2 _],.v false [.im 0 _]]) (vs:=[(false,[.im 0 _])]) (v:=.v false [.im 0 _]) (L_laws_szVeneer hx23) (.inl j) j kF135_156_3 j (ppC j (ppC j pp0)) j j pb0 j j j)<|q (oAsI j j)<|nl)<|us<|gs<|g0 j j (q (oMv j j)<|q (oBi j j j j)<|nl)<|us<|gc h j iDec (fun hc7 h=>?_) fun hc7 h=>?_
    ·refine gs<|g0 j j (q (oAsI j j)<|nl)<|us<|Go.ret (Unw.ret ?_)
     cases h
     exact ⟨j,(fo rF59 j)⟩
    ·refine Go.skip<|Unw.blk<|us<|g0 j j (q (oMv j j)<|q (oBi j j j j)<|q (oAsI j j)<|nl)<|Unw.nil<|?_
     cases h
     exact ⟨j,(by kernel_rfl)⟩
   ·refine Go.exit<|ux<|Unw.nil<|?_
    cases h
    exact ⟨j,(by kernel_rfl)⟩
  ·rintro ⟨e,st⟩ hp
   rcases o with left_1_e0_5 | r2
   ·dsimp only at h
    obtain ⟨he,hst⟩:=hp
    obtain rfl:e= .exit 0:=he
    refine Unw.blkx<|us<|gs<|g2 c59 j j hst (q (oMv j j)<|q (oAsI j j)<|nl)<|us<|Go.ret (Unw.ret ?_)
    cases h
    exact fr rF59 j
   ·dsimp only at h
    obtain ⟨he,hfin⟩:=hp
    obtain rfl:e= .ret:=he
    cases h
    exact Unw.ret (Fin_ret hfin)
theorem L_laws_toPoint {a_0:S_Point} {r:S_Point} (h:laws_toPoint a_0=some r):FX 204 [.im 2 true (u_S_Point a_0)] (B0 [(true,J 0 (u_S_Point r))]):=by
 unfold laws_toPoint at h
 refine gn 11 Try.func204 rfl ?_
 refine gs<|g0 j j (q (oBx j tF291 j (tkI (tkI tk0)))<|q (oAl j tF264 (tkI (tkI tk0)))<|nl)<|us<|gs<|g0 j j (q (oAl j tF264 (tkI (tkI tk0)))<|nl)<|us<|gs<|g0 j j (q (oFA (r':=.mp 1 0 0) j fF291_0 j j)<|q (oLd (cs:=[.im 0 _]) j tF2 j j)<|q (oFA (r':=.mp 3 0 0) j fF264_0 j j)<|q (oSt tF2 j j j (tkI tk0) j j j)<|nl)<|us<|gs<|g1 j j (mk [(1,M 1),(2,M 2),(3,M 3)] [(1,Oa (G 0 (u_S_Point a_0))),(2,Oa [C (I 0),C (I 0)]),(3,Oa [C (I a_0.X),C (I 0)])]) (q (oFA (r':=.mp 1 0 1) j fF291_1 j j)<|q (oLd (cs:=[.im 0 _]) j tF2 j j)<|q (oFA (r':=.mp 3 0 1) j fF264_1 j j)<|q (oSt tF2 j j j (tkI tk0) j j j)<|nl)<|us<|gs<|g1 j j (mk [(2,M 2),(3,M 3)] [(2,Oa [C (I 0),C (I 0)]),(3,Oa (G 0 (u_S_Point a_0)))]) (q (oLd (cs:=[.im 0 _,.im 0 _]) j tF264 j j)<|q (oSt tF264 j j j (tkI (tkI tk0)) j j j)<|nl)<|us<|Go.ret (Unw.ret ?_)
 cases h
 exact fr rF204 j
theorem L_laws_toPointS {a_0:(List S_Point)} {r:(List S_Point)} (h:laws_toPointS a_0=some r):FX 113 [.im 2 false [W 2 e_S_Point a_0]] (B0 [(false,[.ow 0 2 (List.map e_S_Point r)])]):=by
 unfold laws_toPointS at h
 refine gn 23 Try.func113 rfl ?_
 refine gs<|g0 j j (q (oAsN j j eF23)<|nl)<|us<|gs<|?_
 obtain ⟨x7,hx7,h⟩:=bs h
 refine g0 j j (q (oMv j j)<|q (oLnI j j uF53 j)<|q (oMk (en:=e_S_Point) j hx7 j sF23 j j (fxI (fxI fx0)) j (flat0 (L:=[_]) j fun _=>j))<|q (oAsO j j j j j)<|nl)<|us<|gs<|gs<|g0 j j (q (oAsI j j)<|nl)<|us<|Go.block<|?_
 obtain ⟨o,hl,h⟩:=bs h
 refine gl c113 j _ (fun (s:(Int×(List S_Point)))=>match s with | (i_4_l3,out_o3_l3)=>mk [(0,D 2 (W 2 e_S_Point a_0)),(3,H 3 0),(4,iv i_4_l3)] [(3,Oc [Z (W 2 e_S_Point out_o3_l3)])]) (fun (out_o3_e0_3:(List S_Point)) (p:Ex×St)=>p.1= .exit 0∧p.2.norm ([3],[3])=mk [(3,H 3 0)] [(3,Oc [Z (W 2 e_S_Point out_o3_e0_3)])]) hl (by kernel_rfl) ?_ ?_ ?_
 ·intro o p hp e
  exact nomatch (hp.1.symm.trans e)
 ·rintro ⟨i_4_l3,out_o3_l3⟩ o h
  unfold laws_toPointS_l3 at h
  dsimp only at h
  refine gs<|gs<|g0 j j (q (oMv j j)<|q (oMv j j)<|q (oLnI j j uF53 j)<|q (oBi j j j j)<|nl)<|us<|gc h j iDec (fun hc3 h=>?_) fun hc3 h=>?_
  ·refine Go.skip<|us<|gs<|Go.block<|?_
   obtain ⟨x18,hx18,h⟩:=bs h
   obtain ⟨x20,hx20,h⟩:=bs h
   obtain ⟨x21,hx21,h⟩:=bs h
   refine g0 j j (q (oMv j j)<|q (oMv j j)<|q (oMv j j)<|q (oMv j j)<|q (oIAI j hx18 sF53 j j)<|q (oLd (cs:=[.im 2 _,.im 2 _]) j tF291 j j)<|q (oCa (xs:=[.v true [.im 2 _,.im 2 _]]) (vs:=[(true,[.im 0 _,.im 0 _])]) (v:=.v true [.im 0 _,.im 0 _]) (L_laws_toPoint hx20) (.inl j) j kF204_291 j (ppC j pp0) j j pb0 j j j)<|q (oIAO j hx21 sF23 j j j j)<|q (oStE (v':=x20) tF264 j j j (fxI (fxI fx0)) j j (rd_get hx21) j)<|nl)<|Unw.blk<|us<|g1 j j (mk [(0,D 2 (W 2 e_S_Point a_0)),(3,H 3 0),(4,iv i_4_l3)] [(3,Oc [Z (W 2 e_S_Point (out_o3_l3.set i_4_l3.toNat x20))])]) (q (oMv j j)<|q (oBi j j j j)<|q (oAsI j j)<|nl)<|Unw.nil<|?_
   cases h
   exact ⟨j,(by kernel_rfl)⟩
  ·refine Go.exit<|ux<|Unw.nil<|?_
   cases h
   exact ⟨j,(by kernel_rfl)⟩
 ·rintro ⟨e,st⟩ hp
  obtain ⟨out_o3_e0_3,rfl⟩:∃y,y=o:=⟨o,rfl⟩
  obtain ⟨he,hst⟩:=hp
  obtain rfl:e= .exit 0:=he
  refine Unw.blkx<|us<|gs<|g2 c113 j j hst (q (oMv j j)<|q (oAsO j j j j j)<|nl)<|us<|Go.ret (Unw.ret ?_)
  cases h
  exact fr rF113 j
theorem L_laws_toInt64S {a_0:(List Int)} {r:(List Int)} (h:laws_toInt64S a_0=some r):FX 134 [.im 2 false [W 1 eI a_0]] (B0 [(false,[.ow 0 1 (List.map eI r)])]):=by
 unfold laws_toInt64S at h
 refine gn 22 Try.func134 rfl ?_
 refine gs<|g0 j j (q (oAsN j j eF28)<|nl)<|us<|gs<|?_
 obtain ⟨x7,hx7,h⟩:=bs h
 refine g0 j j (q (oMv j j)<|q (oLnI j j uF28 j)<|q (oMk (en:=eI) j hx7 j sF28 j j (fxI fx0) j (flat0 (L:=[_]) j fun _=>j))<|q (oAsO j j j j j)<|nl)<|us<|gs<|gs<|g0 j j (q (oAsI j j)<|nl)<|us<|Go.block<|?_
 obtain ⟨o,hl,h⟩:=bs h
 refine gl c134 j _ (fun (s:(Int×(List Int)))=>match s with | (i_4_l3,out_o3_l3)=>mk [(0,D 2 (W 1 eI a_0)),(3,H 3 0),(4,iv i_4_l3)] [(3,Oc [Z (W 1 eI out_o3_l3)])]) (fun (out_o3_e0_3:(List Int)) (p:Ex×St)=>p.1= .exit 0∧p.2.norm ([3],[3])=mk [(3,H 3 0)] [(3,Oc [Z (W 1 eI out_o3_e0_3)])]) hl (by kernel_rfl) ?_ ?_ ?_
 ·intro o p hp e
  exact nomatch (hp.1.symm.trans e)
 ·rintro ⟨i_4_l3,out_o3_l3⟩ o h
  unfold laws_toInt64S_l3 at h
  dsimp only at h
  refine gs<|gs<|g0 j j (q (oMv j j)<|q (oMv j j)<|q (oLnI j j uF28 j)<|q (oBi j j j j)<|nl)<|us<|gc h j iDec (fun hc3 h=>?_) fun hc3 h=>?_
  ·refine Go.skip<|us<|gs<|Go.block<|?_
   obtain ⟨x18,hx18,h⟩:=bs h
   obtain ⟨x20,hx20,h⟩:=bs h
   refine g0 j j (q (oMv j j)<|q (oMv j j)<|q (oMv j j)<|q (oMv j j)<|q (oIAI j hx18 sF28 j j)<|q (oLd (cs:=[.im 2 _]) j tF2 j j)<|q (oIAO j hx20 sF28 j j j j)<|q (oStE (v':=x18) tF2 j j j (fxI fx0) j j (rd_get hx20) j)<|nl)<|Unw.blk<|us<|g1 j j (mk [(0,D 2 (W 1 eI a_0)),(3,H 3 0),(4,iv i_4_l3)] [(3,Oc [Z (W 1 eI (out_o3_l3.set i_4_l3.toNat x18))])]) (q (oMv j j)<|q (oBi j j j j)<|q (oAsI j j)<|nl)<|Unw.nil<|?_
   cases h
   exact ⟨j,(by kernel_rfl)⟩
  ·refine Go.exit<|ux<|Unw.nil<|?_
   cases h
   exact ⟨j,(by kernel_rfl)⟩
 ·rintro ⟨e,st⟩ hp
  obtain ⟨out_o3_e0_3,rfl⟩:∃y,y=o:=⟨o,rfl⟩
  obtain ⟨he,hst⟩:=hp
  obtain rfl:e= .exit 0:=he
  refine Unw.blkx<|us<|gs<|g2 c134 j j hst (q (oMv j j)<|q (oAsO j j j j j)<|nl)<|us<|Go.ret (Unw.ret ?_)
  cases h
  exact fr rF134 j
theorem L_laws_toFace {a_0:S_Face} {r:S_Face} (h:laws_toFace a_0=some r):FX 205 [.im 2 true (u_S_Face a_0)] (B0 [(true,[.im 0 (Y r.Name),.ow 0 1 (List.map eI r.Ring)])]):=by
 unfold laws_toFace at h
 refine gn 12 Try.func205 rfl ?_
 refine gs<|g0 j j (q (oBx j tF287 j (tkI (tkI tk0)))<|q (oAl j tF257 (tkI (tkN tk0)))<|nl)<|us<|gs<|g0 j j (q (oAl j tF257 (tkI (tkN tk0)))<|nl)<|us<|gs<|g0 j j (q (oFA (r':=.mp 1 0 0) j fF287_0 j j)<|q (oLd (cs:=[.im 0 _]) j tF9 j j)<|q (oFA (r':=.mp 3 0 0) j fF257_0 j j)<|q (oSt tF9 j j j (tkI tk0) j j j)<|nl)<|us<|gs<|?_
 obtain ⟨x9,hx9,h⟩:=bs h
 refine g1 j j (mk [(1,M 1),(2,M 2),(3,M 3)] [(1,Oa (G 2 (u_S_Face a_0))),(2,Oa [C (Y (⟨#[]⟩:ByteArray)),Z (W 1 eI ([]:List Int))]),(3,Oa [C (Y a_0.Name),Z (W 1 eI ([]:List Int))])]) (q (oFA (r':=.mp 1 0 1) j fF287_1 j j)<|q (oLd (cs:=[.im 2 _]) j tF28 j j)<|q (oCr (xs:=[.v false [.im 2 _]]) (vs:=[(false,[.own 9 0 0])]) (v:=.v false [.own 9 0 0]) (c:=⟨.sh,0,_⟩) (cs:=[]) (L_laws_toInt64S hx9) (.inl j) j kF134_28 j (ppC j pp0) j j pb0 j j j)<|q (oFA (r':=.mp 3 0 1) j fF257_1 j j)<|q (oSt tF28 j j j (tkO j j tk0) j j j)<|nl)<|us<|gs<|g1 j j (mk [(2,M 2),(3,M 3)] [(2,Oa [C (Y (⟨#[]⟩:ByteArray)),Z (W 1 eI ([]:List Int))]),(3,Oa [C (Y a_0.Name),Z (W 1 eI x9)])]) (q (oLd (cs:=[.im 0 _,.own 3 0 1]) j tF257 j j)<|q (oSt tF257 j j j (tkI (tkO j j tk0)) j j j)<|nl)<|us<|Go.ret (Unw.ret ?_)
 cases h
 exact fr rF205 j
theorem L_laws_toFaceS {a_0:(List S_Face)} {r:(List S_Face)} (h:laws_toFaceS a_0=some r):FX 114 [.im 2 false [W 2 e_S_Face a_0]] (B0 [(false,[.ow 0 2 (List.map e_S_Face r)])]):=by
 unfold laws_toFaceS at h
 refine gn 23 Try.func114 rfl ?_
 refine gs<|g0 j j (q (oAsN j j eF24)<|nl)<|us<|gs<|?_
 obtain ⟨x7,hx7,h⟩:=bs h
 refine g0 j j (q (oMv j j)<|q (oLnI j j uF54 j)<|q (oMk (en:=e_S_Face) j hx7 j sF24 j j (fxI (fxN fx0)) j (flat1 j))<|q (oAsO j j j j j)<|nl)<|us<|gs<|gs<|g0 j j (q (oAsI j j)<|nl)<|us<|Go.block<|?_
 obtain ⟨o,hl,h⟩:=bs h
 refine gl c114 j _ (fun (s:(Int×(List S_Face)))=>match s with | (i_4_l3,out_o3_l3)=>mk [(0,D 2 (W 2 e_S_Face a_0)),(3,H 3 0),(4,iv i_4_l3)] [(3,Oc [Z (W 2 e_S_Face out_o3_l3)])]) (fun (out_o3_e0_3:(List S_Face)) (p:Ex×St)=>p.1= .exit 0∧p.2.norm ([3],[3])=mk [(3,H 3 0)] [(3,Oc [Z (W 2 e_S_Face out_o3_e0_3)])]) hl (by kernel_rfl) ?_ ?_ ?_
 ·intro o p hp e
  exact nomatch (hp.1.symm.trans e)
 ·rintro ⟨i_4_l3,out_o3_l3⟩ o h
  unfold laws_toFaceS_l3 at h
  dsimp only at h
  refine gs<|gs<|g0 j j (q (oMv j j)<|q (oMv j j)<|q (oLnI j j uF54 j)<|q (oBi j j j j)<|nl)<|us<|gc h j iDec (fun hc3 h=>?_) fun hc3 h=>?_
  ·refine Go.skip<|us<|gs<|Go.block<|?_
   obtain ⟨x18,hx18,h⟩:=bs h
   obtain ⟨x20,hx20,h⟩:=bs h
   obtain ⟨x21,hx21,h⟩:=bs h
   refine g0 j j (q (oMv j j)<|q (oMv j j)<|q (oMv j j)<|q (oMv j j)<|q (oIAI j hx18 sF54 j j)<|q (oLd (cs:=[.im 2 _,.im 2 _]) j tF287 j j)<|q (oCr (xs:=[.v true [.im 2 _,.im 2 _]]) (vs:=[(true,[.im 0 _,.own 20 0 0])]) (v:=.v true [.im 0 _,.own 20 0 0]) (c:=⟨.sh,0,_⟩) (cs:=[]) (L_laws_toFace hx20) (.inl j) j kF205_287 j (ppC j pp0) j j pb0 j j j)<|q (oIAO j hx21 sF24 j j j j)<|q (oStE (v':=x20) tF257 j j j (fxI (fxO j j fx0)) j j (rd_get hx21) j)<|nl)<|Unw.blk<|us<|g1 j j (mk [(0,D 2 (W 2 e_S_Face a_0)),(3,H 3 0),(4,iv i_4_l3)] [(3,Oc [Z (W 2 e_S_Face (out_o3_l3.set i_4_l3.toNat x20))])]) (q (oMv j j)<|q (oBi j j j j)<|q (oAsI j j)<|nl)<|Unw.nil<|?_
   cases h
   exact ⟨j,(by kernel_rfl)⟩
  ·refine Go.exit<|ux<|Unw.nil<|?_
   cases h
   exact ⟨j,(by kernel_rfl)⟩
 ·rintro ⟨e,st⟩ hp
  obtain ⟨out_o3_e0_3,rfl⟩:∃y,y=o:=⟨o,rfl⟩
  obtain ⟨he,hst⟩:=hp
  obtain rfl:e= .exit 0:=he
  refine Unw.blkx<|us<|gs<|g2 c114 j j hst (q (oMv j j)<|q (oAsO j j j j j)<|nl)<|us<|Go.ret (Unw.ret ?_)
  cases h
  exact fr rF114 j
theorem L_laws_toDrawing {a_0:S_Drawing} {r:S_Drawing} (h:laws_toDrawing a_0=some r):FX 38 [.im 2 true (u_S_Drawing a_0)] (B0 [(true,[.im 0 (I r.Width),.im 0 (I r.Height),.ow 0 2 (List.map e_S_Point r.Points),.ow 0 2 (List.map e_S_Face r.Faces)])]):=by
 unfold laws_toDrawing at h
 refine gn 19 Try.func38 rfl ?_
 refine gs<|g0 j j (q (oBx j tF56 j (tkI (tkI (tkI (tkI tk0)))))<|q (oAl j tF26 (tkI (tkI (tkN (tkN tk0)))))<|nl)<|us<|gs<|g0 j j (q (oAl j tF26 (tkI (tkI (tkN (tkN tk0)))))<|nl)<|us<|gs<|g0 j j (q (oFA (r':=.mp 1 0 0) j fF56_0 j j)<|q (oLd (cs:=[.im 0 _]) j tF2 j j)<|q (oFA (r':=.mp 3 0 0) j fF26_0 j j)<|q (oSt tF2 j j j (tkI tk0) j j j)<|nl)<|us<|gs<|g1 j j (mk [(1,M 1),(2,M 2),(3,M 3)] [(1,Oa (G 2 (u_S_Drawing a_0))),(2,Oa [C (I 0),C (I 0),Z (W 2 e_S_Point ([]:List S_Point)),Z (W 2 e_S_Face ([]:List S_Face))]),(3,Oa [C (I a_0.Width),C (I 0),Z (W 2 e_S_Point ([]:List S_Point)),Z (W 2 e_S_Face ([]:List S_Face))])]) (q (oFA (r':=.mp 1 0 1) j fF56_1 j j)<|q (oLd (cs:=[.im 0 _]) j tF2 j j)<|q (oFA (r':=.mp 3 0 1) j fF26_1 j j)<|q (oSt tF2 j j j (tkI tk0) j j j)<|nl)<|us<|gs<|?_
 obtain ⟨x12,hx12,h⟩:=bs h
 refine g1 j j (mk [(1,M 1),(2,M 2),(3,M 3)] [(1,Oa (G 2 (u_S_Drawing a_0))),(2,Oa [C (I 0),C (I 0),Z (W 2 e_S_Point ([]:List S_Point)),Z (W 2 e_S_Face ([]:List S_Face))]),(3,Oa [C (I a_0.Width),C (I a_0.Height),Z (W 2 e_S_Point ([]:List S_Point)),Z (W 2 e_S_Face ([]:List S_Face))])]) (q (oFA (r':=.mp 1 0 2) j fF56_2 j j)<|q (oLd (cs:=[.im 2 _]) j tF53 j j)<|q (oCr (xs:=[.v false [.im 2 _]]) (vs:=[(false,[.own 12 0 0])]) (v:=.v false [.own 12 0 0]) (c:=⟨.sh,0,_⟩) (cs:=[]) (L_laws_toPointS hx12) (.inl j) j kF113_53 j (ppC j pp0) j j pb0 j j j)<|q (oFA (r':=.mp 3 0 2) j fF26_2 j j)<|q (oSt tF23 j j j (tkO j j tk0) j j j)<|nl)<|us<|gs<|?_
 obtain ⟨x16,hx16,h⟩:=bs h
 refine g1 j j (mk [(1,M 1),(2,M 2),(3,M 3)] [(1,Oa (G 2 (u_S_Drawing a_0))),(2,Oa [C (I 0),C (I 0),Z (W 2 e_S_Point ([]:List S_Point)),Z (W 2 e_S_Face ([]:List S_Face))]),(3,Oa [C (I a_0.Width),C (I a_0.Height),Z (W 2 e_S_Point x12),Z (W 2 e_S_Face ([]:List S_Face))])]) (q (oFA (r':=.mp 1 0 3) j fF56_3 j j)<|q (oLd (cs:=[.im 2 _]) j tF54 j j)<|q (oCr (xs:=[.v false [.im 2 _]]) (vs:=[(false,[.own 16 0 0])]) (v:=.v false [.own 16 0 0]) (c:=⟨.sh,0,_⟩) (cs:=[]) (L_laws_toFaceS hx16) (.inl j) j kF114_54 j (ppC j pp0) j j pb0 j j j)<|q (oFA (r':=.mp 3 0 3) j fF26_3 j j)<|q (oSt tF24 j j j (tkO j j tk0) j j j)<|nl)<|us<|gs<|g1 j j (mk [(2,M 2),(3,M 3)] [(2,Oa [C (I 0),C (I 0),Z (W 2 e_S_Point ([]:List S_Point)),Z (W 2 e_S_Face ([]:List S_Face))]),(3,Oa [C (I a_0.Width),C (I a_0.Height),Z (W 2 e_S_Point x12),Z (W 2 e_S_Face x16)])]) (q (oLd (cs:=[.im 0 _,.im 0 _,.own 3 0 2,.own 3 0 3]) j tF26 j j)<|q (oSt tF26 j j j (tkI (tkI (tkO j j (tkO j j tk0)))) j j j)<|nl)<|us<|Go.ret (Unw.ret ?_)
 cases h
 exact fr rF38 j
theorem L_laws_toVeneer {a_0:S_Veneer} {r:S_Veneer} (h:laws_toVeneer a_0=some r):FX 137 [.im 2 true (u_S_Veneer a_0)] (B0 [(true,J 0 (u_S_Veneer r))]):=by
 unfold laws_toVeneer at h
 refine gn 14 Try.func137 rfl ?_
 refine gs<|g0 j j (q (oBx j tF156 j (tkI (tkI (tkI tk0))))<|q (oAl j tF104 (tkI (tkI (tkI tk0))))<|nl)<|us<|gs<|g0 j j (q (oAl j tF104 (tkI (tkI (tkI tk0))))<|nl)<|us<|gs<|g0 j j (q (oFA (r':=.mp 1 0 0) j fF156_0 j j)<|q (oLd (cs:=[.im 0 _]) j tF9 j j)<|q (oFA (r':=.mp 3 0 0) j fF104_0 j j)<|q (oSt tF9 j j j (tkI tk0) j j j)<|nl)<|us<|gs<|g1 j j (mk [(1,M 1),(2,M 2),(3,M 3)] [(1,Oa (G 0 (u_S_Veneer a_0))),(2,Oa [C (Y (⟨#[]⟩:ByteArray)),C (I 0),C (I 0)]),(3,Oa [C (Y a_0.Species),C (I 0),C (I 0)])]) (q (oFA (r':=.mp 1 0 1) j fF156_1 j j)<|q (oLd (cs:=[.im 0 _]) j tF2 j j)<|q (oFA (r':=.mp 3 0 1) j fF104_1 j j)<|q (oSt tF2 j j j (tkI tk0) j j j)<|nl)<|us<|gs<|g1 j j (mk [(1,M 1),(2,M 2),(3,M 3)] [(1,Oa (G 0 (u_S_Veneer a_0))),(2,Oa [C (Y (⟨#[]⟩:ByteArray)),C (I 0),C (I 0)]),(3,Oa [C (Y a_0.Species),C (I a_0.Shade),C (I 0)])]) (q (oFA (r':=.mp 1 0 2) j fF156_2 j j)<|q (oLd (cs:=[.im 0 _]) j tF2 j j)<|q (oFA (r':=.mp 3 0 2) j fF104_2 j j)<|q (oSt tF2 j j j (tkI tk0) j j j)<|nl)<|us<|gs<|g1 j j (mk [(2,M 2),(3,M 3)] [(2,Oa [C (Y (⟨#[]⟩:ByteArray)),C (I 0),C (I 0)]),(3,Oa (G 0 (u_S_Veneer a_0)))]) (q (oLd (cs:=[.im 0 _,.im 0 _,.im 0 _]) j tF104 j j)<|q (oSt tF104 j j j (tkI (tkI (tkI tk0))) j j j)<|nl)<|us<|Go.ret (Unw.ret ?_)
 cases h
 exact fr rF137 j
theorem L_laws_toVeneerS {a_0:(List S_Veneer)} {r:(List S_Veneer)} (h:laws_toVeneerS a_0=some r):FX 61 [.im 2 false [W 3 e_S_Veneer a_0]] (B0 [(false,[.ow 0 3 (List.map e_S_Veneer r)])]):=by
 unfold laws_toVeneerS at h
 refine gn 23 Try.func61 rfl ?_
 refine gs<|g0 j j (q (oAsN j j eF84)<|nl)<|us<|gs<|?_
 obtain ⟨x7,hx7,h⟩:=bs h
 refine g0 j j (q (oMv j j)<|q (oLnI j j uF81 j)<|q (oMk (en:=e_S_Veneer) j hx7 j sF84 j j (fxI (fxI (fxI fx0))) j (flat0 (L:=[_]) j fun _=>j))<|q (oAsO j j j j j)<|nl)<|us<|gs<|gs<|g0 j j (q (oAsI j j)<|nl)<|us<|Go.block<|?_
 obtain ⟨o,hl,h⟩:=bs h
 refine gl c61 j _ (fun (s:(Int×(List S_Veneer)))=>match s with | (i_4_l3,out_o3_l3)=>mk [(0,D 2 (W 3 e_S_Veneer a_0)),(3,H 3 0),(4,iv i_4_l3)] [(3,Oc [Z (W 3 e_S_Veneer out_o3_l3)])]) (fun (out_o3_e0_3:(List S_Veneer)) (p:Ex×St)=>p.1= .exit 0∧p.2.norm ([3],[3])=mk [(3,H 3 0)] [(3,Oc [Z (W 3 e_S_Veneer out_o3_e0_3)])]) hl (by kernel_rfl) ?_ ?_ ?_
 ·intro o p hp e
  exact nomatch (hp.1.symm.trans e)
 ·rintro ⟨i_4_l3,out_o3_l3⟩ o h
  unfold laws_toVeneerS_l3 at h
  dsimp only at h
  refine gs<|gs<|g0 j j (q (oMv j j)<|q (oMv j j)<|q (oLnI j j uF81 j)<|q (oBi j j j j)<|nl)<|us<|gc h j iDec (fun hc3 h=>?_) fun hc3 h=>?_
  ·refine Go.skip<|us<|gs<|Go.block<|?_
   obtain ⟨x18,hx18,h⟩:=bs h
   obtain ⟨x20,hx20,h⟩:=bs h
   obtain ⟨x21,hx21,h⟩:=bs h
   refine g0 j j (q (oMv j j)<|q (oMv j j)<|q (oMv j j)<|q (oMv j j)<|q (oIAI j hx18 sF81 j j)<|q (oLd (cs:=[.im 2 _,.im 2 _,.im 2 _]) j tF156 j j)<|q (oCa (xs:=[.v true [.im 2 _,.im 2 _,.im 2 _]]) (vs:=[(true,[.im 0 _,.im 0 _,.im 0 _])]) (v:=.v true [.im 0 _,.im 0 _,.im 0 _]) (L_laws_toVeneer hx20) (.inl j) j kF137_156 j (ppC j pp0) j j pb0 j j j)<|q (oIAO j hx21 sF84 j j j j)<|q (oStE (v':=x20) tF104 j j j (fxI (fxI (fxI fx0))) j j (rd_get hx21) j)<|nl)<|Unw.blk<|us<|g1 j j (mk [(0,D 2 (W 3 e_S_Veneer a_0)),(3,H 3 0),(4,iv i_4_l3)] [(3,Oc [Z (W 3 e_S_Veneer (out_o3_l3.set i_4_l3.toNat x20))])]) (q (oMv j j)<|q (oBi j j j j)<|q (oAsI j j)<|nl)<|Unw.nil<|?_
   cases h
   exact ⟨j,(by kernel_rfl)⟩
  ·refine Go.exit<|ux<|Unw.nil<|?_
   cases h
   exact ⟨j,(by kernel_rfl)⟩
 ·rintro ⟨e,st⟩ hp
  obtain ⟨out_o3_e0_3,rfl⟩:∃y,y=o:=⟨o,rfl⟩
  obtain ⟨he,hst⟩:=hp
  obtain rfl:e= .exit 0:=he
  refine Unw.blkx<|us<|gs<|g2 c61 j j hst (q (oMv j j)<|q (oAsO j j j j j)<|nl)<|us<|Go.ret (Unw.ret ?_)
  cases h
  exact fr rF61 j
theorem L_spec_l00In {n_0:Int} {low_1:Int} {high_2:Int} {r:Bool} (h:spec_l00In n_0 low_1 high_2=some r):FX 94 [.im 2 false [I n_0],.im 2 false [I low_1],.im 2 false [I high_2]] (B0 [(false,[.im 0 (V r)])]):=by
 unfold spec_l00In at h
 refine gn 15 Try.func94 rfl ?_
 refine gs<|g0 j j (q (oAsI j j)<|nl)<|us<|gs<|gX c94 j j j (mk [(6,bv ((decide (n_0≥low_1))&&(decide (n_0≤high_2))))] []) ?_ ?_
 ·refine xq (oMv j j)<|xq (oMv j j)<|xq (oBi j j j j)<|xq (oMv j j)<|?_
  by_cases hc1:n_0≥low_1
  ·exact xqT rfl rfl (iDec.2 hc1) (oMv rfl rfl)<|xqT rfl rfl (iDec.2 hc1) (oMv rfl rfl)<|xqT rfl rfl (iDec.2 hc1) (oBi rfl rfl rfl rfl)<|xq (oPkT rfl rfl (iDec.2 hc1) rfl)<|xq (oAsI rfl rfl)<|xn (Eq.trans (b:=(fun t_6_m1:Bool=>mk [(6,bv t_6_m1)] []) (decide (n_0≤high_2))) (by kernel_rfl) (congrArg (fun t_6_m1:Bool=>mk [(6,bv t_6_m1)] []) (by first | rfl | (simp [(iDec.2 hc1)];done) | (simp [(iDec.2 hc1)];omega))))
  ·exact xsgF rfl rfl (byF iDec hc1) rfl<|xsgF rfl rfl (byF iDec hc1) rfl<|xsgF rfl rfl (byF iDec hc1) rfl<|xq (oPkF rfl rfl (byF iDec hc1) rfl)<|xq (oAsI rfl rfl)<|xn (Eq.trans (b:=(fun t_6_m1:Bool=>mk [(6,bv t_6_m1)] []) false) (by kernel_rfl) (congrArg (fun t_6_m1:Bool=>mk [(6,bv t_6_m1)] []) (by first | rfl | (simp [(byF iDec hc1)];done) | (simp [(byF iDec hc1)];omega))))
 ·refine us<|Go.ret (Unw.ret ?_)
  cases h
  exact fr rF94 j
theorem L_spec_l05Points {d_0:S_Drawing} {r:Bool} (h:spec_l05Points d_0=some r):FX 171 [.im 2 false [.cp (u_S_Drawing d_0) 0]] (B0 [(false,[.im 0 (V r)])]):=by
 unfold spec_l05Points at h
 refine gn 70 Try.func171 rfl ?_
 refine gs<|g0 j j (q (oAsI j j)<|nl)<|us<|gs<|gs<|g0 j j (q (oMv j j)<|q (oNl j j j)<|q (oFA (r':=.im 2 _) j fF26_2 j j)<|q (oLd (cs:=[.im 2 _]) j tF23 j j)<|q (oLnI j j uF23 j)<|q (oBi j j j j)<|nl)<|us<|gc h j iDec (fun hc1 h=>?_) fun hc1 h=>?_
 ·refine gs<|g0 j j (q (oAsI j j)<|nl)<|us<|Go.ret (Unw.ret ?_)
  cases h
  exact fr rF171 j
 ·refine Go.skip<|us<|gs<|gs<|g0 j j (q (oAsI j j)<|nl)<|us<|Go.block<|?_
  obtain ⟨o,hl,h⟩:=bs h
  refine gl c171 j _ (fun (i_3_l4:Int)=>mk [(0,D 2 (.cp (u_S_Drawing d_0) 0)),(3,iv i_3_l4)] []) (fun (o:(Unit ⊕ Bool)) (p:Ex×St)=>match o with | (.inl _)=>p.1= .exit 0∧p.2.norm ([],[])=mk [] [] | (.inr r2)=>p.1= .ret∧fin Try.prog cfg 171 Try.f171 [.im 2 false [.cp (u_S_Drawing d_0) 0]] p.2=some (B0 [(false,[.im 0 (V r2)])])) hl (by kernel_rfl) ?_ ?_ ?_
  ·intro o p hp e
   rcases o with u | r2<;>exact nomatch (hp.1.symm.trans e)
  ·rintro i_3_l4 o h
   unfold spec_l05Points_l4 at h
   refine gs<|gs<|g0 j j (q (oMv j j)<|q (oMv j j)<|q (oNl j j j)<|q (oFA (r':=.im 2 _) j fF26_2 j j)<|q (oLd (cs:=[.im 2 _]) j tF23 j j)<|q (oLnI j j uF23 j)<|q (oBi j j j j)<|nl)<|us<|gc h j iDec (fun hc18 h=>?_) fun hc18 h=>?_
   ·refine Go.skip<|us<|gs<|Go.block<|gs<|gs<|?_
    obtain ⟨x25,hx25,h⟩:=bs h
    obtain ⟨x32,hx32,h⟩:=bs h
    obtain ⟨t_49_m6,hm27,h⟩:=bs h
    refine gd c171 j j j j (mk [(0,D 2 (.cp (u_S_Drawing d_0) 0)),(3,iv i_3_l4),(49,bv t_49_m6)] []) ?_ ?_
    ·refine t j j (oMv j j)<|t j j (oNl j j j)<|t j j (oFA (r':=.im 2 _) j fF26_2 j j)<|t j j (oLd (cs:=[.im 2 _]) j tF23 j j)<|t j j (oMv j j)<|t j j (oIAI j hx25 sF23 j j)<|t j j (oFA (r':=.im 2 _) j fF264_0 j j)<|t j j (oLd (cs:=[.im 2 _]) j tF2 j j)<|t j j (oMv j j)<|t j j (oNl j j j)<|t j j (oFA (r':=.im 2 _) j fF26_0 j j)<|?_
     refine ic hm27 (fun hc19 hm27=>?_) fun hc19 hm27=>?_
     ·obtain ⟨x40,hx40,hm27⟩:=bs hm27
      obtain ⟨x47,hx47,hm27⟩:=bs hm27
      cases hm27
      exact t j j (oLd (cs:=[.im 2 _]) j tF2 j j)<|sS (dN z171 j (oCa (xs:=[.v false [.im 2 _],.v false [.im 0 _],.v false [.im 2 _]]) (vs:=[(false,[.im 0 _])]) (v:=.v false [.im 0 _]) (L_spec_l00In hx32) (.inl j) j kF94_2_2_2 j (ppC j (ppC j (ppC j pp0))) j j pb0 j j j)) trivial (t j j (oUn j j j)<|t j j (oMv j j)<|tT j j j j (nF (iR.2 hc19)) (oMv j j)<|tT j j j j (nF (iR.2 hc19)) (oNl j j j)<|tT j j j j (nF (iR.2 hc19)) (oFA (r':=.im 2 _) j fF26_2 j j)<|tT j j j j (nF (iR.2 hc19)) (oLd (cs:=[.im 2 _]) j tF23 j j)<|tT j j j j (nF (iR.2 hc19)) (oMv j j)<|tT j j j j (nF (iR.2 hc19)) (oIAI j hx40 sF23 j j)<|tT j j j j (nF (iR.2 hc19)) (oFA (r':=.im 2 _) j fF264_1 j j)<|tT j j j j (nF (iR.2 hc19)) (oLd (cs:=[.im 2 _]) j tF2 j j)<|tT j j j j (nF (iR.2 hc19)) (oMv j j)<|tT j j j j (nF (iR.2 hc19)) (oNl j j j)<|tT j j j j (nF (iR.2 hc19)) (oFA (r':=.im 2 _) j fF26_1 j j)<|tT j j j j (nF (iR.2 hc19)) (oLd (cs:=[.im 2 _]) j tF2 j j)<|sS (dT z171 j j j (nF (iR.2 hc19)) (oCa (xs:=[.v false [.im 2 _],.v false [.im 0 _],.v false [.im 2 _]]) (vs:=[(false,[.im 0 _])]) (v:=.v false [.im 0 _]) (L_spec_l00In hx47) (.inl j) j kF94_2_2_2 j (ppC j (ppC j (ppC j pp0))) j j pb0 j j j)) trivial (tT j j j j (nF (iR.2 hc19)) (oUn j j j)<|t j j (oPkF j j (nF (iR.2 hc19)) j)<|sD (by kernel_rfl)))
     ·cases hm27
      exact t j j (oLd (cs:=[.im 2 _]) j tF2 j j)<|sS (dN z171 j (oCa (xs:=[.v false [.im 2 _],.v false [.im 0 _],.v false [.im 2 _]]) (vs:=[(false,[.im 0 _])]) (v:=.v false [.im 0 _]) (L_spec_l00In hx32) (.inl j) j kF94_2_2_2 j (ppC j (ppC j (ppC j pp0))) j j pb0 j j j)) trivial (t j j (oUn j j j)<|t j j (oMv j j)<|tF j j j j (nT (byF iR hc19)) j<|tF j j j j (nT (byF iR hc19)) j<|tF j j j j (nT (byF iR hc19)) j<|tF j j j j (nT (byF iR hc19)) j<|tF j j j j (nT (byF iR hc19)) j<|tF j j j j (nT (byF iR hc19)) j<|tF j j j j (nT (byF iR hc19)) j<|tF j j j j (nT (byF iR hc19)) j<|tF j j j j (nT (byF iR hc19)) j<|tF j j j j (nT (byF iR hc19)) j<|tF j j j j (nT (byF iR hc19)) j<|tF j j j j (nT (byF iR hc19)) j<|sS (dF j j j (nT (byF iR hc19)) j) trivial (tF j j j j (nT (byF iR hc19)) j<|t j j (oPkT j j (nT (byF iR hc19)) j)<|sD (by kernel_rfl)))
    ·refine us<|gc h j iR (fun hc20 h=>?_) fun hc20 h=>?_
     ·refine gs<|g0 j j (q (oAsI j j)<|nl)<|us<|Go.ret (Unw.ret ?_)
      cases h
      exact ⟨j,(fo rF171 j)⟩
     ·refine Go.skip<|us<|gs<|g0 j j (q (oAsI j j)<|nl)<|us<|Go.block<|?_
      obtain ⟨o,hl,h⟩:=bs h
      refine gl c171 j _ (fun (k_4_l9:Int)=>mk [(0,D 2 (.cp (u_S_Drawing d_0) 0)),(3,iv i_3_l4),(4,iv k_4_l9)] []) (fun (o:(Unit ⊕ Bool)) (p:Ex×St)=>match o with | (.inl _)=>p.1= .exit 2∧p.2.norm ([0,3],[])=mk [(0,D 2 (.cp (u_S_Drawing d_0) 0)),(3,iv i_3_l4)] [] | (.inr r2)=>p.1= .ret∧fin Try.prog cfg 171 Try.f171 [.im 2 false [.cp (u_S_Drawing d_0) 0]] p.2=some (B0 [(false,[.im 0 (V r2)])])) hl (by kernel_rfl) ?_ ?_ ?_
      ·intro o p hp e
       rcases o with u | r2<;>exact nomatch (hp.1.symm.trans e)
      ·rintro k_4_l9 o h
       unfold spec_l05Points_l9 at h
       refine gs<|gs<|g0 j j (q (oMv j j)<|q (oMv j j)<|q (oBi j j j j)<|nl)<|us<|gc h j iDec (fun hc25 h=>?_) fun hc25 h=>?_
       ·refine Go.skip<|us<|gs<|Go.block<|gs<|?_
        obtain ⟨x60,hx60,h⟩:=bs h
        obtain ⟨x67,hx67,h⟩:=bs h
        refine gd c171 j j j j (mk [(0,D 2 (.cp (u_S_Drawing d_0) 0)),(3,iv i_3_l4),(4,iv k_4_l9),(69,bv ((x60.X==x67.X)&&(x60.Y==x67.Y)))] []) (t j j (oMv j j)<|t j j (oNl j j j)<|t j j (oFA (r':=.im 2 _) j fF26_2 j j)<|t j j (oLd (cs:=[.im 2 _]) j tF23 j j)<|t j j (oMv j j)<|t j j (oIAI j hx60 sF23 j j)<|t j j (oLd (cs:=[.im 2 _,.im 2 _]) j tF264 j j)<|t j j (oMv j j)<|t j j (oNl j j j)<|t j j (oFA (r':=.im 2 _) j fF26_2 j j)<|t j j (oLd (cs:=[.im 2 _]) j tF23 j j)<|t j j (oMv j j)<|t j j (oIAI j hx67 sF23 j j)<|t j j (oLd (cs:=[.im 2 _,.im 2 _]) j tF264 j j)<|t j j (oBa j (qEF264 x60.X x60.Y x67.X x67.Y) j j j j)<|sD (by kernel_rfl))<|us<|gc h j (iAnd iEq iEq) (fun hc26 h=>?_) fun hc26 h=>?_
        ·refine gs<|g0 j j (q (oAsI j j)<|nl)<|us<|Go.ret (Unw.ret ?_)
         cases h
         exact ⟨j,(fo rF171 j)⟩
        ·refine Go.skip<|Unw.blk<|us<|g0 j j (q (oMv j j)<|q (oBi j j j j)<|q (oAsI j j)<|nl)<|Unw.nil<|?_
         cases h
         exact ⟨j,(by kernel_rfl)⟩
       ·refine Go.exit<|ux<|Unw.nil<|?_
        cases h
        exact ⟨j,(by kernel_rfl)⟩
      ·rintro ⟨e,st⟩ hp
       rcases o with u | r2
       ·dsimp only at h
        obtain ⟨he,hst⟩:=hp
        obtain rfl:e= .exit 2:=he
        refine Unw.blkx<|Unw.blk<|us<|g2 c171 j j hst (q (oMv j j)<|q (oBi j j j j)<|q (oAsI j j)<|nl)<|Unw.nil<|?_
        cases h
        exact ⟨j,(by kernel_rfl)⟩
       ·dsimp only at h
        obtain ⟨he,hfin⟩:=hp
        obtain rfl:e= .ret:=he
        cases h
        exact Unw.ret ⟨j,hfin⟩
   ·refine Go.exit<|ux<|Unw.nil<|?_
    cases h
    exact ⟨j,(by kernel_rfl)⟩
  ·rintro ⟨e,st⟩ hp
   rcases o with u | r2
   ·dsimp only at h
    obtain ⟨he,hst⟩:=hp
    obtain rfl:e= .exit 0:=he
    refine Unw.blkx<|us<|gs<|g2 c171 j j hst (q (oAsI j j)<|nl)<|us<|Go.ret (Unw.ret ?_)
    cases h
    exact fr rF171 j
   ·dsimp only at h
    obtain ⟨he,hfin⟩:=hp
    obtain rfl:e= .ret:=he
    cases h
    exact Unw.ret (Fin_ret hfin)
theorem L_spec_l01Small {c_0:Int} {r:Bool} (h:spec_l01Small c_0=some r):FX 268 [.im 2 false [.sc (.int .u8 c_0)]] (B0 [(false,[.im 0 (V r)])]):=by
 unfold spec_l01Small at h
 refine gn 9 Try.func268 rfl ?_
 refine gs<|g0 j j (q (oAsI j j)<|nl)<|us<|gs<|gX c268 j j j (mk [(2,bv ((decide (c_0≥97))&&(decide (c_0≤122))))] []) ?_ ?_
 ·refine xq (oMv j j)<|xq (oBi j j j j)<|xq (oMv j j)<|?_
  by_cases hc1:c_0≥97
  ·exact xqT rfl rfl (iDec.2 hc1) (oMv rfl rfl)<|xqT rfl rfl (iDec.2 hc1) (oBi rfl rfl rfl rfl)<|xq (oPkT rfl rfl (iDec.2 hc1) rfl)<|xq (oAsI rfl rfl)<|xn (Eq.trans (b:=(fun t_2_m1:Bool=>mk [(2,bv t_2_m1)] []) (decide (c_0≤122))) (by kernel_rfl) (congrArg (fun t_2_m1:Bool=>mk [(2,bv t_2_m1)] []) (by first | rfl | (simp [(iDec.2 hc1)];done) | (simp [(iDec.2 hc1)];omega))))
  ·exact xsgF rfl rfl (byF iDec hc1) rfl<|xsgF rfl rfl (byF iDec hc1) rfl<|xq (oPkF rfl rfl (byF iDec hc1) rfl)<|xq (oAsI rfl rfl)<|xn (Eq.trans (b:=(fun t_2_m1:Bool=>mk [(2,bv t_2_m1)] []) false) (by kernel_rfl) (congrArg (fun t_2_m1:Bool=>mk [(2,bv t_2_m1)] []) (by first | rfl | (simp [(byF iDec hc1)];done) | (simp [(byF iDec hc1)];omega))))
 ·refine us<|Go.ret (Unw.ret ?_)
  cases h
  exact fr rF268 j
theorem L_spec_l01Digit {c_0:Int} {r:Bool} (h:spec_l01Digit c_0=some r):FX 269 [.im 2 false [.sc (.int .u8 c_0)]] (B0 [(false,[.im 0 (V r)])]):=by
 unfold spec_l01Digit at h
 refine gn 9 Try.func269 rfl ?_
 refine gs<|g0 j j (q (oAsI j j)<|nl)<|us<|gs<|gX c269 j j j (mk [(2,bv ((decide (c_0≥48))&&(decide (c_0≤57))))] []) ?_ ?_
 ·refine xq (oMv j j)<|xq (oBi j j j j)<|xq (oMv j j)<|?_
  by_cases hc1:c_0≥48
  ·exact xqT rfl rfl (iDec.2 hc1) (oMv rfl rfl)<|xqT rfl rfl (iDec.2 hc1) (oBi rfl rfl rfl rfl)<|xq (oPkT rfl rfl (iDec.2 hc1) rfl)<|xq (oAsI rfl rfl)<|xn (Eq.trans (b:=(fun t_2_m1:Bool=>mk [(2,bv t_2_m1)] []) (decide (c_0≤57))) (by kernel_rfl) (congrArg (fun t_2_m1:Bool=>mk [(2,bv t_2_m1)] []) (by first | rfl | (simp [(iDec.2 hc1)];done) | (simp [(iDec.2 hc1)];omega))))
  ·exact xsgF rfl rfl (byF iDec hc1) rfl<|xsgF rfl rfl (byF iDec hc1) rfl<|xq (oPkF rfl rfl (byF iDec hc1) rfl)<|xq (oAsI rfl rfl)<|xn (Eq.trans (b:=(fun t_2_m1:Bool=>mk [(2,bv t_2_m1)] []) false) (by kernel_rfl) (congrArg (fun t_2_m1:Bool=>mk [(2,bv t_2_m1)] []) (by first | rfl | (simp [(byF iDec hc1)];done) | (simp [(byF iDec hc1)];omega))))
 ·refine us<|Go.ret (Unw.ret ?_)
  cases h
  exact fr rF269 j
theorem L_spec_l01Name {s_0:ByteArray} {r:Bool} (h:spec_l01Name s_0=some r):FX 172 [.im 2 false [Y s_0]] (B0 [(false,[.im 0 (V r)])]):=by
 unfold spec_l01Name at h
 refine gn 35 Try.func172 rfl ?_
 refine gs<|g0 j j (q (oAsI j j)<|nl)<|us<|gs<|gs<|?_
 obtain ⟨t_16_m1,hm16,h⟩:=bs h
 refine gX c172 j j j (mk [(0,sv s_0),(16,bv t_16_m1)] []) ?_ ?_
 ·refine xq (oMv j j)<|xq (oBi j j j j)<|xq (oMv j j)<|?_
  refine ic hm16 (fun hc1 hm16=>?_) fun hc1 hm16=>?_
  ·cases hm16
   exact xsgF j j (iStr.2 hc1) j<|xsgF j j (iStr.2 hc1) j<|xsgF j j (iStr.2 hc1) j<|xq (oPkT j j (iStr.2 hc1) j)<|xq (oMv j j)<|xsgF j j j j<|xsgF j j j j<|xsgF j j j j<|xsgF j j j j<|xq (oPkT j j j j)<|xn
  ·refine xqT j j (byF iStr hc1) (oMv j j)<|xqT j j (byF iStr hc1) (oLnS j j uF9 j)<|xqT j j (byF iStr hc1) (oBi j j j j)<|xq (oPkF j j (byF iStr hc1) j)<|xq (oMv j j)<|?_
   refine ic hm16 (fun hc2 hm16=>?_) fun hc2 hm16=>?_
   ·cases hm16
    exact xsgF j j (iDec.2 hc2) j<|xsgF j j (iDec.2 hc2) j<|xsgF j j (iDec.2 hc2) j<|xsgF j j (iDec.2 hc2) j<|xq (oPkT j j (iDec.2 hc2) j)<|xn
   ·obtain ⟨x13,hx13,hm16⟩:=bs hm16
    obtain ⟨x14,hx14,hm16⟩:=bs hm16
    cases hm16
    exact xqT j j (byF iDec hc2) (oMv j j)<|xqT j j (byF iDec hc2) (oIx j hx13 uF9 j j)<|xqT j j (byF iDec hc2) (oCa (xs:=[.v false [.im 0 _]]) (vs:=[(false,[.im 0 _])]) (v:=.v false [.im 0 _]) (L_spec_l01Small hx14) (.inl j) j kF268_5 j (ppC j pp0) j j pb0 j j j)<|xqT j j (byF iDec hc2) (oUn j j j)<|xq (oPkF j j (byF iDec hc2) j)<|xn
 ·refine us<|gc h j iR (fun hc3 h=>?_) fun hc3 h=>?_
  ·refine gs<|g0 j j (q (oAsI j j)<|nl)<|us<|Go.ret (Unw.ret ?_)
   cases h
   exact fr rF172 j
  ·refine Go.skip<|us<|gs<|gs<|g0 j j (q (oAsI j j)<|nl)<|us<|Go.block<|?_
   obtain ⟨o,hl,h⟩:=bs h
   refine gl c172 j _ (fun (i_3_l4:Int)=>mk [(0,sv s_0),(3,iv i_3_l4)] []) (fun (o:(Unit ⊕ Bool)) (p:Ex×St)=>match o with | (.inl _)=>p.1= .exit 0∧p.2.norm ([],[])=mk [] [] | (.inr r2)=>p.1= .ret∧fin Try.prog cfg 172 Try.f172 [.im 2 false [Y s_0]] p.2=some (B0 [(false,[.im 0 (V r2)])])) hl (by kernel_rfl) ?_ ?_ ?_
   ·intro o p hp e
    rcases o with u | r2<;>exact nomatch (hp.1.symm.trans e)
   ·rintro i_3_l4 o h
    unfold spec_l01Name_l4 at h
    refine gs<|gs<|g0 j j (q (oMv j j)<|q (oMv j j)<|q (oLnS j j uF9 j)<|q (oBi j j j j)<|nl)<|us<|gc h j iDec (fun hc12 h=>?_) fun hc12 h=>?_
    ·refine Go.skip<|us<|gs<|Go.block<|gs<|?_
     obtain ⟨x25,hx25,h⟩:=bs h
     obtain ⟨x26,hx26,h⟩:=bs h
     obtain ⟨t_34_m6,hm15,h⟩:=bs h
     refine gX c172 j j j (mk [(0,sv s_0),(3,iv i_3_l4),(34,bv t_34_m6)] []) ?_ ?_
     ·refine xq (oMv j j)<|xq (oMv j j)<|xq (oIx j hx25 uF9 j j)<|xq (oCa (xs:=[.v false [.im 0 _]]) (vs:=[(false,[.im 0 _])]) (v:=.v false [.im 0 _]) (L_spec_l01Small hx26) (.inl j) j kF268_5 j (ppC j pp0) j j pb0 j j j)<|xq (oUn j j j)<|xq (oMv j j)<|?_
      refine ic hm15 (fun hc13 hm15=>?_) fun hc13 hm15=>?_
      ·cases hm15
       exact xsgF j j (nF (iR.2 hc13)) j<|xsgF j j (nF (iR.2 hc13)) j<|xsgF j j (nF (iR.2 hc13)) j<|xsgF j j (nF (iR.2 hc13)) j<|xsgF j j (nF (iR.2 hc13)) j<|xq (oPkF j j (nF (iR.2 hc13)) j)<|xn
      ·obtain ⟨x31,hx31,hm15⟩:=bs hm15
       obtain ⟨x32,hx32,hm15⟩:=bs hm15
       cases hm15
       exact xqT j j (nT (byF iR hc13)) (oMv j j)<|xqT j j (nT (byF iR hc13)) (oMv j j)<|xqT j j (nT (byF iR hc13)) (oIx j hx31 uF9 j j)<|xqT j j (nT (byF iR hc13)) (oCa (xs:=[.v false [.im 0 _]]) (vs:=[(false,[.im 0 _])]) (v:=.v false [.im 0 _]) (L_spec_l01Digit hx32) (.inl j) j kF269_5 j (ppC j pp0) j j pb0 j j j)<|xqT j j (nT (byF iR hc13)) (oUn j j j)<|xq (oPkT j j (nT (byF iR hc13)) j)<|xn
     ·refine us<|gc h j iR (fun hc14 h=>?_) fun hc14 h=>?_
      ·refine gs<|g0 j j (q (oAsI j j)<|nl)<|us<|Go.ret (Unw.ret ?_)
       cases h
       exact ⟨j,(fo rF172 j)⟩
      ·refine Go.skip<|Unw.blk<|us<|g0 j j (q (oMv j j)<|q (oBi j j j j)<|q (oAsI j j)<|nl)<|Unw.nil<|?_
       cases h
       exact ⟨j,(by kernel_rfl)⟩
    ·refine Go.exit<|ux<|Unw.nil<|?_
     cases h
     exact ⟨j,(by kernel_rfl)⟩
   ·rintro ⟨e,st⟩ hp
    rcases o with u | r2
    ·dsimp only at h
     obtain ⟨he,hst⟩:=hp
     obtain rfl:e= .exit 0:=he
     refine Unw.blkx<|us<|gs<|g2 c172 j j hst (q (oAsI j j)<|nl)<|us<|Go.ret (Unw.ret ?_)
     cases h
     exact fr rF172 j
    ·dsimp only at h
     obtain ⟨he,hfin⟩:=hp
     obtain rfl:e= .ret:=he
     cases h
     exact Unw.ret (Fin_ret hfin)
theorem L_spec_l05Ring {d_0:S_Drawing} {ring_1:(List Int)} {r:((List S_Point)×Bool)} (h:spec_l05Ring d_0 ring_1=some r):FX 173 [.im 2 false [.cp (u_S_Drawing d_0) 0],.im 2 false [W 1 eI ring_1]] (B0 [(false,[.ow 0 2 (List.map e_S_Point r.1)]),(false,[.im 0 (V r.2)])]):=by
 unfold spec_l05Ring at h
 refine gn 41 Try.func173 rfl ?_
 refine gs<|g0 j j (q (oAsN j j eF23)<|q (oAsI j j)<|nl)<|us<|gs<|g0 j j (q (oBS (es:=List.map e_S_Point ([]:List S_Point)) j sF23 j pt0 (flat0 j fun _=>j))<|q (oAsO j j j j j)<|nl)<|us<|gs<|gs<|g0 j j (q (oAsI j j)<|nl)<|us<|Go.block<|?_
 obtain ⟨o,hl,h⟩:=bs h
 refine gl c173 j _ (fun (s:(Int×(List S_Point)))=>match s with | (i_7_l3,out_o6_l3)=>mk [(0,D 2 (.cp (u_S_Drawing d_0) 0)),(1,D 2 (W 1 eI ring_1)),(6,H 6 0),(7,iv i_7_l3)] [(6,Oc [Z (W 2 e_S_Point out_o6_l3)])]) (fun (o:((List S_Point) ⊕ ((List S_Point)×Bool))) (p:Ex×St)=>match o with | (.inl out_o6_e0_3)=>p.1= .exit 0∧p.2.norm ([6],[6])=mk [(6,H 6 0)] [(6,Oc [Z (W 2 e_S_Point out_o6_e0_3)])] | (.inr r2)=>p.1= .ret∧fin Try.prog cfg 173 Try.f173 [.im 2 false [.cp (u_S_Drawing d_0) 0],.im 2 false [W 1 eI ring_1]] p.2=some (B0 [(false,[.ow 0 2 (List.map e_S_Point r2.1)]),(false,[.im 0 (V r2.2)])])) hl (by kernel_rfl) ?_ ?_ ?_
 ·intro o p hp e
  rcases o with out_o6_e0_3 | r2<;>exact nomatch (hp.1.symm.trans e)
 ·rintro ⟨i_7_l3,out_o6_l3⟩ o h
  unfold spec_l05Ring_l3 at h
  dsimp only at h
  refine gs<|gs<|g0 j j (q (oMv j j)<|q (oMv j j)<|q (oLnI j j uF28 j)<|q (oBi j j j j)<|nl)<|us<|gc h j iDec (fun hc5 h=>?_) fun hc5 h=>?_
  ·refine Go.skip<|us<|gs<|Go.block<|gs<|gs<|?_
   obtain ⟨x17,hx17,h⟩:=bs h
   obtain ⟨x25,hx25,h⟩:=bs h
   refine gd c173 j j j j (mk [(0,D 2 (.cp (u_S_Drawing d_0) 0)),(1,D 2 (W 1 eI ring_1)),(6,H 6 0),(7,iv i_7_l3),(26,bv (!x25))] [(6,Oc [Z (W 2 e_S_Point out_o6_l3)])]) (t j j (oMv j j)<|t j j (oMv j j)<|t j j (oIAI j hx17 sF28 j j)<|t j j (oLd (cs:=[.im 2 _]) j tF2 j j)<|t j j (oMv j j)<|t j j (oNl j j j)<|t j j (oFA (r':=.im 2 _) j fF26_2 j j)<|t j j (oLd (cs:=[.im 2 _]) j tF23 j j)<|t j j (oLnI j j uF23 j)<|t j j (oBi j j j j)<|sS (dN z173 j (oCa (xs:=[.v false [.im 2 _],.v false [.im 0 _],.v false [.im 0 _]]) (vs:=[(false,[.im 0 _])]) (v:=.v false [.im 0 _]) (L_spec_l00In hx25) (.inl j) j kF94_2_2_2 j (ppC j (ppC j (ppC j pp0))) j j pb0 j j j)) trivial (t j j (oUn j j j)<|sD (by kernel_rfl)))<|us<|?_
   by_cases hc6:x25=true
   ·rw [if_pos hc6] at h
    refine gF j (nF (iR.2 hc6))<|Go.skip<|us<|?_
    obtain ⟨x34,hx34,h⟩:=bs h
    obtain ⟨x36,hx36,h⟩:=bs h
    obtain ⟨x39,hx39,h⟩:=bs h
    refine gd c173 j j j j (mk [(0,D 2 (.cp (u_S_Drawing d_0) 0)),(1,D 2 (W 1 eI ring_1)),(6,H 6 0),(7,iv i_7_l3)] [(6,Oc [Z (W 2 e_S_Point x39)])]) (t j j (oMv j j)<|t j j (oMv j j)<|t j j (oNl j j j)<|t j j (oFA (r':=.im 2 _) j fF26_2 j j)<|t j j (oLd (cs:=[.im 2 _]) j tF23 j j)<|t j j (oMv j j)<|t j j (oMv j j)<|t j j (oIAI j hx34 sF28 j j)<|t j j (oLd (cs:=[.im 2 _]) j tF2 j j)<|t j j (oIAI j hx36 sF23 j j)<|t j j (oLd (cs:=[.im 2 _,.im 2 _]) j tF264 j j)<|sS (dN z173 j (oBS (es:=List.map e_S_Point ([x36]:List S_Point)) j sF23 j (ptC j (fxI (fxI fx0)) j pt0) (flat0 j fun _=>j))) trivial (sS (dN z173 j (oApO (en:=e_S_Point) (M:=([x36]:List S_Point)) j hx39 j sF23 j j uF23 (.inl ⟨_,j⟩) j j j j (el_own j j) (flat0 j fun _=>j))) trivial (sS (dN z173 j (oAsO j j j j j)) trivial (sD (by kernel_rfl)))))<|Unw.blk<|us<|g0 j j (q (oMv j j)<|q (oBi j j j j)<|q (oAsI j j)<|nl)<|Unw.nil<|?_
    cases h
    exact ⟨j,(by kernel_rfl)⟩
   ·rw [if_neg hc6] at h
    refine gT j (nT (byF iR hc6))<|gs<|g0 j j (q (oAsN j j eF23)<|q (oAsI j j)<|nl)<|us<|Go.ret (Unw.ret ?_)
    cases h
    exact ⟨j,(fo rF173 j)⟩
  ·refine Go.exit<|ux<|Unw.nil<|?_
   cases h
   exact ⟨j,(by kernel_rfl)⟩
 ·rintro ⟨e,st⟩ hp
  rcases o with out_o6_e0_3 | r2
  ·dsimp only at h
   obtain ⟨he,hst⟩:=hp
   obtain rfl:e= .exit 0:=he
   refine Unw.blkx<|us<|gs<|g2 c173 j j hst (q (oMv j j)<|q (oAsO j j j j j)<|q (oAsI j j)<|nl)<|us<|Go.ret (Unw.ret ?_)
   cases h
   exact fr rF173 j
  ·dsimp only at h
   obtain ⟨he,hfin⟩:=hp
   obtain rfl:e= .ret:=he
   cases h
   exact Unw.ret (Fin_ret hfin)
theorem L_spec_l02Ok {p_0:S_Point} {r:Bool} (h:spec_l02Ok p_0=some r):FX 270 [.im 2 true (u_S_Point p_0)] (B0 [(false,[.im 0 (V r)])]):=by
 unfold spec_l02Ok at h
 refine gn 11 Try.func270 rfl ?_
 refine gs<|g0 j j (q (oBx j tF264 j (tkI (tkI tk0)))<|q (oAsI j j)<|nl)<|us<|gs<|?_
 obtain ⟨x5,hx5,h⟩:=bs h
 obtain ⟨t_2_m1,hm2,h⟩:=bs h
 refine gX c270 j j j (mk [(2,bv t_2_m1)] []) ?_ ?_
 ·refine xq (oFA (r':=.mp 1 0 0) j fF264_0 j j)<|xq (oLd (cs:=[.im 0 _]) j tF2 j j)<|xq (oCa (xs:=[.v false [.im 0 _],.v false [.im 0 _],.v false [.im 0 _]]) (vs:=[(false,[.im 0 _])]) (v:=.v false [.im 0 _]) (L_spec_l00In hx5) (.inl j) j kF94_2_2_2 j (ppC j (ppC j (ppC j pp0))) j j pb0 j j j)<|xq (oMv j j)<|?_
  refine ic hm2 (fun hc1 hm2=>?_) fun hc1 hm2=>?_
  ·obtain ⟨x9,hx9,hm2⟩:=bs hm2
   cases hm2
   exact xqT j j (iR.2 hc1) (oFA (r':=.mp 1 0 1) j fF264_1 j j)<|xqT j j (iR.2 hc1) (oLd (cs:=[.im 0 _]) j tF2 j j)<|xqT j j (iR.2 hc1) (oCa (xs:=[.v false [.im 0 _],.v false [.im 0 _],.v false [.im 0 _]]) (vs:=[(false,[.im 0 _])]) (v:=.v false [.im 0 _]) (L_spec_l00In hx9) (.inl j) j kF94_2_2_2 j (ppC j (ppC j (ppC j pp0))) j j pb0 j j j)<|xq (oPkT j j (iR.2 hc1) j)<|xq (oAsI j j)<|xn
  ·cases hm2
   exact xsgF j j (byF iR hc1) j<|xsgF j j (byF iR hc1) j<|xsgF j j (byF iR hc1) j<|xq (oPkF j j (byF iR hc1) j)<|xq (oAsI j j)<|xn
 ·refine us<|Go.ret (Unw.ret ?_)
  cases h
  exact fr rF270 j
theorem L_spec_l02Cross {a_0:S_Point} {b_1:S_Point} {c_2:S_Point} {r:Int} (h:spec_l02Cross a_0 b_1 c_2=some r):FX 354 [.im 2 true (u_S_Point a_0),.im 2 true (u_S_Point b_1),.im 2 true (u_S_Point c_2)] (B0 [(false,[.im 0 (I r)])]):=by
 unfold spec_l02Cross at h
 refine gn 30 Try.func354 rfl ?_
 refine gs<|g0 j j (q (oBx j tF264 j (tkI (tkI tk0)))<|q (oBx j tF264 j (tkI (tkI tk0)))<|q (oBx j tF264 j (tkI (tkI tk0)))<|q (oAsI j j)<|nl)<|us<|gs<|g0 j j (q (oFA (r':=.mp 4 0 0) j fF264_0 j j)<|q (oLd (cs:=[.im 0 _]) j tF2 j j)<|q (oFA (r':=.mp 3 0 0) j fF264_0 j j)<|q (oLd (cs:=[.im 0 _]) j tF2 j j)<|q (oBi j j j j)<|q (oFA (r':=.mp 5 0 1) j fF264_1 j j)<|q (oLd (cs:=[.im 0 _]) j tF2 j j)<|q (oFA (r':=.mp 3 0 1) j fF264_1 j j)<|q (oLd (cs:=[.im 0 _]) j tF2 j j)<|q (oBi j j j j)<|q (oBi j j j j)<|q (oFA (r':=.mp 4 0 1) j fF264_1 j j)<|q (oLd (cs:=[.im 0 _]) j tF2 j j)<|q (oFA (r':=.mp 3 0 1) j fF264_1 j j)<|q (oLd (cs:=[.im 0 _]) j tF2 j j)<|q (oBi j j j j)<|q (oFA (r':=.mp 5 0 0) j fF264_0 j j)<|q (oLd (cs:=[.im 0 _]) j tF2 j j)<|q (oFA (r':=.mp 3 0 0) j fF264_0 j j)<|q (oLd (cs:=[.im 0 _]) j tF2 j j)<|q (oBi j j j j)<|q (oBi j j j j)<|q (oBi j j j j)<|q (oAsI j j)<|nl)<|us<|Go.ret (Unw.ret ?_)
 cases h
 exact fr rF354 j
theorem L_spec_l02Side {a_0:S_Point} {b_1:S_Point} {c_2:S_Point} {r:Int} (h:spec_l02Side a_0 b_1 c_2=some r):FX 319 [.im 2 true (u_S_Point a_0),.im 2 true (u_S_Point b_1),.im 2 true (u_S_Point c_2)] (B0 [(false,[.im 0 (I r)])]):=by
 unfold spec_l02Side at h
 refine gn 16 Try.func319 rfl ?_
 refine gs<|g0 j j (q (oBx j tF264 j (tkI (tkI tk0)))<|q (oBx j tF264 j (tkI (tkI tk0)))<|q (oBx j tF264 j (tkI (tkI tk0)))<|q (oAsI j j)<|nl)<|us<|gs<|?_
 obtain ⟨x11,hx11,h⟩:=bs h
 refine g0 j j (q (oLd (cs:=[.im 0 _,.im 0 _]) j tF264 j j)<|q (oLd (cs:=[.im 0 _,.im 0 _]) j tF264 j j)<|q (oLd (cs:=[.im 0 _,.im 0 _]) j tF264 j j)<|q (oCa (xs:=[.v true [.im 0 _,.im 0 _],.v true [.im 0 _,.im 0 _],.v true [.im 0 _,.im 0 _]]) (vs:=[(false,[.im 0 _])]) (v:=.v false [.im 0 _]) (L_spec_l02Cross hx11) (.inl j) j kF354_264_264_264 j (ppC j (ppC j (ppC j pp0))) j j pb0 j j j)<|q (oAsI j j)<|nl)<|us<|gs<|gs<|g0 j j (q (oMv j j)<|q (oBi j j j j)<|nl)<|us<|gc h j iDec (fun hc1 h=>?_) fun hc1 h=>?_
 ·refine gs<|g0 j j (q (oAsI j j)<|nl)<|us<|Go.ret (Unw.ret ?_)
  cases h
  exact fr rF319 j
 ·refine Go.skip<|us<|gs<|gs<|g0 j j (q (oMv j j)<|q (oBi j j j j)<|nl)<|us<|gc h j iDec (fun hc2 h=>?_) fun hc2 h=>?_
  ·refine gs<|g0 j j (q (oAsI j j)<|nl)<|us<|Go.ret (Unw.ret ?_)
   cases h
   exact fr rF319 j
  ·refine Go.skip<|us<|gs<|g0 j j (q (oAsI j j)<|nl)<|us<|Go.ret (Unw.ret ?_)
   cases h
   exact fr rF319 j
theorem L_spec_l00Min {a_0:Int} {b_1:Int} {r:Int} (h:spec_l00Min a_0 b_1=some r):FX 222 [.im 2 false [I a_0],.im 2 false [I b_1]] (B0 [(false,[.im 0 (I r)])]):=by
 unfold spec_l00Min at h
 refine gn 10 Try.func222 rfl ?_
 refine gs<|g0 j j (q (oAsI j j)<|nl)<|us<|gs<|gs<|g0 j j (q (oMv j j)<|q (oMv j j)<|q (oBi j j j j)<|nl)<|us<|gc h j iDec (fun hc1 h=>?_) fun hc1 h=>?_
 ·refine gs<|g0 j j (q (oMv j j)<|q (oAsI j j)<|nl)<|us<|Go.ret (Unw.ret ?_)
  cases h
  exact fr rF222 j
 ·refine Go.skip<|us<|gs<|g0 j j (q (oMv j j)<|q (oAsI j j)<|nl)<|us<|Go.ret (Unw.ret ?_)
  cases h
  exact fr rF222 j
theorem L_spec_l00Max {a_0:Int} {b_1:Int} {r:Int} (h:spec_l00Max a_0 b_1=some r):FX 218 [.im 2 false [I a_0],.im 2 false [I b_1]] (B0 [(false,[.im 0 (I r)])]):=by
 unfold spec_l00Max at h
 refine gn 10 Try.func218 rfl ?_
 refine gs<|g0 j j (q (oAsI j j)<|nl)<|us<|gs<|gs<|g0 j j (q (oMv j j)<|q (oMv j j)<|q (oBi j j j j)<|nl)<|us<|gc h j iDec (fun hc1 h=>?_) fun hc1 h=>?_
 ·refine gs<|g0 j j (q (oMv j j)<|q (oAsI j j)<|nl)<|us<|Go.ret (Unw.ret ?_)
  cases h
  exact fr rF218 j
 ·refine Go.skip<|us<|gs<|g0 j j (q (oMv j j)<|q (oAsI j j)<|nl)<|us<|Go.ret (Unw.ret ?_)
  cases h
  exact fr rF218 j
theorem L_spec_l02On {a_0:S_Point} {b_1:S_Point} {p_2:S_Point} {r:Bool} (h:spec_l02On a_0 b_1 p_2=some r):FX 271 [.im 2 true (u_S_Point a_0),.im 2 true (u_S_Point b_1),.im 2 true (u_S_Point p_2)] (B0 [(false,[.im 0 (V r)])]):=by
 unfold spec_l02On at h
 refine gn 42 Try.func271 rfl ?_
 refine gs<|g0 j j (q (oBx j tF264 j (tkI (tkI tk0)))<|q (oBx j tF264 j (tkI (tkI tk0)))<|q (oBx j tF264 j (tkI (tkI tk0)))<|q (oAsI j j)<|nl)<|us<|gs<|?_
 obtain ⟨x10,hx10,h⟩:=bs h
 obtain ⟨t_6_m1,hm3,h⟩:=bs h
 refine gd c271 j j j j (mk [(6,bv t_6_m1)] []) ?_ ?_
 ·refine t j j (oLd (cs:=[.im 0 _,.im 0 _]) j tF264 j j)<|t j j (oLd (cs:=[.im 0 _,.im 0 _]) j tF264 j j)<|?_
  refine ic hm3 (fun hc1 hm3=>?_) fun hc1 hm3=>?_
  ·obtain ⟨x19,hx19,hm3⟩:=bs hm3
   obtain ⟨x24,hx24,hm3⟩:=bs hm3
   obtain ⟨x25,hx25,hm3⟩:=bs hm3
   refine ic hm3 (fun hc2 hm3=>?_) fun hc2 hm3=>?_
   ·obtain ⟨x34,hx34,hm3⟩:=bs hm3
    obtain ⟨x39,hx39,hm3⟩:=bs hm3
    obtain ⟨x40,hx40,hm3⟩:=bs hm3
    cases hm3
    exact t j j (oLd (cs:=[.im 0 _,.im 0 _]) j tF264 j j)<|sS (dN z271 j (oCa (xs:=[.v true [.im 0 _,.im 0 _],.v true [.im 0 _,.im 0 _],.v true [.im 0 _,.im 0 _]]) (vs:=[(false,[.im 0 _])]) (v:=.v false [.im 0 _]) (L_spec_l02Side hx10) (.inl j) j kF319_264_264_264 j (ppC j (ppC j (ppC j pp0))) j j pb0 j j j)) trivial (t j j (oBi j j j j)<|t j j (oMv j j)<|tT j j j j (iEq.2 hc1) (oFA (r':=.mp 5 0 0) j fF264_0 j j)<|tT j j j j (iEq.2 hc1) (oLd (cs:=[.im 0 _]) j tF2 j j)<|tT j j j j (iEq.2 hc1) (oFA (r':=.mp 3 0 0) j fF264_0 j j)<|tT j j j j (iEq.2 hc1) (oLd (cs:=[.im 0 _]) j tF2 j j)<|tT j j j j (iEq.2 hc1) (oFA (r':=.mp 4 0 0) j fF264_0 j j)<|tT j j j j (iEq.2 hc1) (oLd (cs:=[.im 0 _]) j tF2 j j)<|tT j j j j (iEq.2 hc1) (oFA (r':=.mp 3 0 0) j fF264_0 j j)<|tT j j j j (iEq.2 hc1) (oLd (cs:=[.im 0 _]) j tF2 j j)<|tT j j j j (iEq.2 hc1) (oFA (r':=.mp 4 0 0) j fF264_0 j j)<|tT j j j j (iEq.2 hc1) (oLd (cs:=[.im 0 _]) j tF2 j j)<|sS (dT z271 j j j (iEq.2 hc1) (oCa (xs:=[.v false [.im 0 _],.v false [.im 0 _]]) (vs:=[(false,[.im 0 _])]) (v:=.v false [.im 0 _]) (L_spec_l00Min hx19) (.inl j) j kF222_2_2 j (ppC j (ppC j pp0)) j j pb0 j j j)) trivial (sS (dT z271 j j j (iEq.2 hc1) (oCa (xs:=[.v false [.im 0 _],.v false [.im 0 _]]) (vs:=[(false,[.im 0 _])]) (v:=.v false [.im 0 _]) (L_spec_l00Max hx24) (.inl j) j kF218_2_2 j (ppC j (ppC j pp0)) j j pb0 j j j)) trivial (sS (dT z271 j j j (iEq.2 hc1) (oCa (xs:=[.v false [.im 0 _],.v false [.im 0 _],.v false [.im 0 _]]) (vs:=[(false,[.im 0 _])]) (v:=.v false [.im 0 _]) (L_spec_l00In hx25) (.inl j) j kF94_2_2_2 j (ppC j (ppC j (ppC j pp0))) j j pb0 j j j)) trivial (t j j (oPkT j j (iEq.2 hc1) j)<|t j j (oMv j j)<|tT j j j j (iR.2 hc2) (oFA (r':=.mp 5 0 1) j fF264_1 j j)<|tT j j j j (iR.2 hc2) (oLd (cs:=[.im 0 _]) j tF2 j j)<|tT j j j j (iR.2 hc2) (oFA (r':=.mp 3 0 1) j fF264_1 j j)<|tT j j j j (iR.2 hc2) (oLd (cs:=[.im 0 _]) j tF2 j j)<|tT j j j j (iR.2 hc2) (oFA (r':=.mp 4 0 1) j fF264_1 j j)<|tT j j j j (iR.2 hc2) (oLd (cs:=[.im 0 _]) j tF2 j j)<|tT j j j j (iR.2 hc2) (oFA (r':=.mp 3 0 1) j fF264_1 j j)<|tT j j j j (iR.2 hc2) (oLd (cs:=[.im 0 _]) j tF2 j j)<|tT j j j j (iR.2 hc2) (oFA (r':=.mp 4 0 1) j fF264_1 j j)<|tT j j j j (iR.2 hc2) (oLd (cs:=[.im 0 _]) j tF2 j j)<|sS (dT z271 j j j (iR.2 hc2) (oCa (xs:=[.v false [.im 0 _],.v false [.im 0 _]]) (vs:=[(false,[.im 0 _])]) (v:=.v false [.im 0 _]) (L_spec_l00Min hx34) (.inl j) j kF222_2_2 j (ppC j (ppC j pp0)) j j pb0 j j j)) trivial (sS (dT z271 j j j (iR.2 hc2) (oCa (xs:=[.v false [.im 0 _],.v false [.im 0 _]]) (vs:=[(false,[.im 0 _])]) (v:=.v false [.im 0 _]) (L_spec_l00Max hx39) (.inl j) j kF218_2_2 j (ppC j (ppC j pp0)) j j pb0 j j j)) trivial (sS (dT z271 j j j (iR.2 hc2) (oCa (xs:=[.v false [.im 0 _],.v false [.im 0 _],.v false [.im 0 _]]) (vs:=[(false,[.im 0 _])]) (v:=.v false [.im 0 _]) (L_spec_l00In hx40) (.inl j) j kF94_2_2_2 j (ppC j (ppC j (ppC j pp0))) j j pb0 j j j)) trivial (t j j (oPkT j j (iR.2 hc2) j)<|sS (dN z271 j (oAsI j j)) trivial (sD (by kernel_rfl)))))))))
   ·cases hm3
    exact t j j (oLd (cs:=[.im 0 _,.im 0 _]) j tF264 j j)<|sS (dN z271 j (oCa (xs:=[.v true [.im 0 _,.im 0 _],.v true [.im 0 _,.im 0 _],.v true [.im 0 _,.im 0 _]]) (vs:=[(false,[.im 0 _])]) (v:=.v false [.im 0 _]) (L_spec_l02Side hx10) (.inl j) j kF319_264_264_264 j (ppC j (ppC j (ppC j pp0))) j j pb0 j j j)) trivial (t j j (oBi j j j j)<|t j j (oMv j j)<|tT j j j j (iEq.2 hc1) (oFA (r':=.mp 5 0 0) j fF264_0 j j)<|tT j j j j (iEq.2 hc1) (oLd (cs:=[.im 0 _]) j tF2 j j)<|tT j j j j (iEq.2 hc1) (oFA (r':=.mp 3 0 0) j fF264_0 j j)<|tT j j j j (iEq.2 hc1) (oLd (cs:=[.im 0 _]) j tF2 j j)<|tT j j j j (iEq.2 hc1) (oFA (r':=.mp 4 0 0) j fF264_0 j j)<|tT j j j j (iEq.2 hc1) (oLd (cs:=[.im 0 _]) j tF2 j j)<|tT j j j j (iEq.2 hc1) (oFA (r':=.mp 3 0 0) j fF264_0 j j)<|tT j j j j (iEq.2 hc1) (oLd (cs:=[.im 0 _]) j tF2 j j)<|tT j j j j (iEq.2 hc1) (oFA (r':=.mp 4 0 0) j fF264_0 j j)<|tT j j j j (iEq.2 hc1) (oLd (cs:=[.im 0 _]) j tF2 j j)<|sS (dT z271 j j j (iEq.2 hc1) (oCa (xs:=[.v false [.im 0 _],.v false [.im 0 _]]) (vs:=[(false,[.im 0 _])]) (v:=.v false [.im 0 _]) (L_spec_l00Min hx19) (.inl j) j kF222_2_2 j (ppC j (ppC j pp0)) j j pb0 j j j)) trivial (sS (dT z271 j j j (iEq.2 hc1) (oCa (xs:=[.v false [.im 0 _],.v false [.im 0 _]]) (vs:=[(false,[.im 0 _])]) (v:=.v false [.im 0 _]) (L_spec_l00Max hx24) (.inl j) j kF218_2_2 j (ppC j (ppC j pp0)) j j pb0 j j j)) trivial (sS (dT z271 j j j (iEq.2 hc1) (oCa (xs:=[.v false [.im 0 _],.v false [.im 0 _],.v false [.im 0 _]]) (vs:=[(false,[.im 0 _])]) (v:=.v false [.im 0 _]) (L_spec_l00In hx25) (.inl j) j kF94_2_2_2 j (ppC j (ppC j (ppC j pp0))) j j pb0 j j j)) trivial (t j j (oPkT j j (iEq.2 hc1) j)<|t j j (oMv j j)<|tF j j j j (byF iR hc2) j<|tF j j j j (byF iR hc2) j<|tF j j j j (byF iR hc2) j<|tF j j j j (byF iR hc2) j<|tF j j j j (byF iR hc2) j<|tF j j j j (byF iR hc2) j<|tF j j j j (byF iR hc2) j<|tF j j j j (byF iR hc2) j<|tF j j j j (byF iR hc2) j<|tF j j j j (byF iR hc2) j<|sS (dF j j j (byF iR hc2) j) trivial (sS (dF j j j (byF iR hc2) j) trivial (sS (dF j j j (byF iR hc2) j) trivial (t j j (oPkF j j (byF iR hc2) j)<|sS (dN z271 j (oAsI j j)) trivial (sD (by kernel_rfl)))))))))
  ·cases hm3
   exact t j j (oLd (cs:=[.im 0 _,.im 0 _]) j tF264 j j)<|sS (dN z271 j (oCa (xs:=[.v true [.im 0 _,.im 0 _],.v true [.im 0 _,.im 0 _],.v true [.im 0 _,.im 0 _]]) (vs:=[(false,[.im 0 _])]) (v:=.v false [.im 0 _]) (L_spec_l02Side hx10) (.inl j) j kF319_264_264_264 j (ppC j (ppC j (ppC j pp0))) j j pb0 j j j)) trivial (t j j (oBi j j j j)<|t j j (oMv j j)<|tF j j j j (byF iEq hc1) j<|tF j j j j (byF iEq hc1) j<|tF j j j j (byF iEq hc1) j<|tF j j j j (byF iEq hc1) j<|tF j j j j (byF iEq hc1) j<|tF j j j j (byF iEq hc1) j<|tF j j j j (byF iEq hc1) j<|tF j j j j (byF iEq hc1) j<|tF j j j j (byF iEq hc1) j<|tF j j j j (byF iEq hc1) j<|sS (dF j j j (byF iEq hc1) j) trivial (sS (dF j j j (byF iEq hc1) j) trivial (sS (dF j j j (byF iEq hc1) j) trivial (t j j (oPkF j j (byF iEq hc1) j)<|t j j (oMv j j)<|tF j j j j j j<|tF j j j j j j<|tF j j j j j j<|tF j j j j j j<|tF j j j j j j<|tF j j j j j j<|tF j j j j j j<|tF j j j j j j<|tF j j j j j j<|tF j j j j j j<|sS (dF j j j j j) trivial (sS (dF j j j j j) trivial (sS (dF j j j j j) trivial (t j j (oPkF j j j j)<|sS (dN z271 j (oAsI j j)) trivial (sD (by kernel_rfl)))))))))
 ·refine us<|Go.ret (Unw.ret ?_)
  cases h
  exact fr rF271 j
theorem L_spec_l02Crosses {a_0:S_Point} {b_1:S_Point} {c_2:S_Point} {d_3:S_Point} {r:Bool} (h:spec_l02Crosses a_0 b_1 c_2 d_3=some r):FX 320 [.im 2 true (u_S_Point a_0),.im 2 true (u_S_Point b_1),.im 2 true (u_S_Point c_2),.im 2 true (u_S_Point d_3)] (B0 [(false,[.im 0 (V r)])]):=by
 unfold spec_l02Crosses at h
 refine gn 31 Try.func320 rfl ?_
 refine gs<|g0 j j (q (oBx j tF264 j (tkI (tkI tk0)))<|q (oBx j tF264 j (tkI (tkI tk0)))<|q (oBx j tF264 j (tkI (tkI tk0)))<|q (oBx j tF264 j (tkI (tkI tk0)))<|q (oAsI j j)<|nl)<|us<|gs<|?_
 obtain ⟨x12,hx12,h⟩:=bs h
 obtain ⟨x16,hx16,h⟩:=bs h
 obtain ⟨t_8_m1,hm2,h⟩:=bs h
 refine gd c320 j j j j (mk [(8,bv t_8_m1)] []) ?_ ?_
 ·refine t j j (oLd (cs:=[.im 0 _,.im 0 _]) j tF264 j j)<|t j j (oLd (cs:=[.im 0 _,.im 0 _]) j tF264 j j)<|t j j (oLd (cs:=[.im 0 _,.im 0 _]) j tF264 j j)<|t j j (oLd (cs:=[.im 0 _,.im 0 _]) j tF264 j j)<|t j j (oLd (cs:=[.im 0 _,.im 0 _]) j tF264 j j)<|?_
  refine ic hm2 (fun hc1 hm2=>?_) fun hc1 hm2=>?_
  ·obtain ⟨x23,hx23,hm2⟩:=bs hm2
   obtain ⟨x27,hx27,hm2⟩:=bs hm2
   cases hm2
   exact t j j (oLd (cs:=[.im 0 _,.im 0 _]) j tF264 j j)<|sS (dN z320 j (oCa (xs:=[.v true [.im 0 _,.im 0 _],.v true [.im 0 _,.im 0 _],.v true [.im 0 _,.im 0 _]]) (vs:=[(false,[.im 0 _])]) (v:=.v false [.im 0 _]) (L_spec_l02Side hx12) (.inl j) j kF319_264_264_264 j (ppC j (ppC j (ppC j pp0))) j j pb0 j j j)) trivial (sS (dN z320 j (oCa (xs:=[.v true [.im 0 _,.im 0 _],.v true [.im 0 _,.im 0 _],.v true [.im 0 _,.im 0 _]]) (vs:=[(false,[.im 0 _])]) (v:=.v false [.im 0 _]) (L_spec_l02Side hx16) (.inl j) j kF319_264_264_264 j (ppC j (ppC j (ppC j pp0))) j j pb0 j j j)) trivial (t j j (oBi j j j j)<|t j j (oBi j j j j)<|t j j (oMv j j)<|tT j j j j (iDec.2 hc1) (oLd (cs:=[.im 0 _,.im 0 _]) j tF264 j j)<|tT j j j j (iDec.2 hc1) (oLd (cs:=[.im 0 _,.im 0 _]) j tF264 j j)<|tT j j j j (iDec.2 hc1) (oLd (cs:=[.im 0 _,.im 0 _]) j tF264 j j)<|tT j j j j (iDec.2 hc1) (oLd (cs:=[.im 0 _,.im 0 _]) j tF264 j j)<|tT j j j j (iDec.2 hc1) (oLd (cs:=[.im 0 _,.im 0 _]) j tF264 j j)<|tT j j j j (iDec.2 hc1) (oLd (cs:=[.im 0 _,.im 0 _]) j tF264 j j)<|sS (dT z320 j j j (iDec.2 hc1) (oCa (xs:=[.v true [.im 0 _,.im 0 _],.v true [.im 0 _,.im 0 _],.v true [.im 0 _,.im 0 _]]) (vs:=[(false,[.im 0 _])]) (v:=.v false [.im 0 _]) (L_spec_l02Side hx23) (.inl j) j kF319_264_264_264 j (ppC j (ppC j (ppC j pp0))) j j pb0 j j j)) trivial (sS (dT z320 j j j (iDec.2 hc1) (oCa (xs:=[.v true [.im 0 _,.im 0 _],.v true [.im 0 _,.im 0 _],.v true [.im 0 _,.im 0 _]]) (vs:=[(false,[.im 0 _])]) (v:=.v false [.im 0 _]) (L_spec_l02Side hx27) (.inl j) j kF319_264_264_264 j (ppC j (ppC j (ppC j pp0))) j j pb0 j j j)) trivial (tT j j j j (iDec.2 hc1) (oBi j j j j)<|tT j j j j (iDec.2 hc1) (oBi j j j j)<|t j j (oPkT j j (iDec.2 hc1) j)<|sS (dN z320 j (oAsI j j)) trivial (sD (by kernel_rfl))))))
  ·cases hm2
   exact t j j (oLd (cs:=[.im 0 _,.im 0 _]) j tF264 j j)<|sS (dN z320 j (oCa (xs:=[.v true [.im 0 _,.im 0 _],.v true [.im 0 _,.im 0 _],.v true [.im 0 _,.im 0 _]]) (vs:=[(false,[.im 0 _])]) (v:=.v false [.im 0 _]) (L_spec_l02Side hx12) (.inl j) j kF319_264_264_264 j (ppC j (ppC j (ppC j pp0))) j j pb0 j j j)) trivial (sS (dN z320 j (oCa (xs:=[.v true [.im 0 _,.im 0 _],.v true [.im 0 _,.im 0 _],.v true [.im 0 _,.im 0 _]]) (vs:=[(false,[.im 0 _])]) (v:=.v false [.im 0 _]) (L_spec_l02Side hx16) (.inl j) j kF319_264_264_264 j (ppC j (ppC j (ppC j pp0))) j j pb0 j j j)) trivial (t j j (oBi j j j j)<|t j j (oBi j j j j)<|t j j (oMv j j)<|tF j j j j (byF iDec hc1) j<|tF j j j j (byF iDec hc1) j<|tF j j j j (byF iDec hc1) j<|tF j j j j (byF iDec hc1) j<|tF j j j j (byF iDec hc1) j<|tF j j j j (byF iDec hc1) j<|sS (dF j j j (byF iDec hc1) j) trivial (sS (dF j j j (byF iDec hc1) j) trivial (tF j j j j (byF iDec hc1) j<|tF j j j j (byF iDec hc1) j<|t j j (oPkF j j (byF iDec hc1) j)<|sS (dN z320 j (oAsI j j)) trivial (sD (by kernel_rfl))))))
 ·refine us<|Go.ret (Unw.ret ?_)
  cases h
  exact fr rF320 j
theorem L_spec_l03Meet {a_0:S_Point} {b_1:S_Point} {c_2:S_Point} {d_3:S_Point} {r:Bool} (h:spec_l03Meet a_0 b_1 c_2 d_3=some r):FX 272 [.im 2 true (u_S_Point a_0),.im 2 true (u_S_Point b_1),.im 2 true (u_S_Point c_2),.im 2 true (u_S_Point d_3)] (B0 [(false,[.im 0 (V r)])]):=by
 unfold spec_l03Meet at h
 refine gn 38 Try.func272 rfl ?_
 refine gs<|g0 j j (q (oBx j tF264 j (tkI (tkI tk0)))<|q (oBx j tF264 j (tkI (tkI tk0)))<|q (oBx j tF264 j (tkI (tkI tk0)))<|q (oBx j tF264 j (tkI (tkI tk0)))<|q (oAsI j j)<|nl)<|us<|gs<|?_
 obtain ⟨x13,hx13,h⟩:=bs h
 obtain ⟨t_8_m1,hm5,h⟩:=bs h
 refine gX c272 j j j (mk [(8,bv t_8_m1)] []) ?_ ?_
 ·refine xq (oLd (cs:=[.im 0 _,.im 0 _]) j tF264 j j)<|xq (oLd (cs:=[.im 0 _,.im 0 _]) j tF264 j j)<|xq (oLd (cs:=[.im 0 _,.im 0 _]) j tF264 j j)<|xq (oLd (cs:=[.im 0 _,.im 0 _]) j tF264 j j)<|xq (oCa (xs:=[.v true [.im 0 _,.im 0 _],.v true [.im 0 _,.im 0 _],.v true [.im 0 _,.im 0 _],.v true [.im 0 _,.im 0 _]]) (vs:=[(false,[.im 0 _])]) (v:=.v false [.im 0 _]) (L_spec_l02Crosses hx13) (.inl j) j kF320_264_264_264_264 j (ppC j (ppC j (ppC j (ppC j pp0)))) j j pb0 j j j)<|xq (oMv j j)<|?_
  refine ic hm5 (fun hc1 hm5=>?_) fun hc1 hm5=>?_
  ·cases hm5
   exact xsgF j j (iR.2 hc1) j<|xsgF j j (iR.2 hc1) j<|xsgF j j (iR.2 hc1) j<|xsgF j j (iR.2 hc1) j<|xq (oPkT j j (iR.2 hc1) j)<|xq (oMv j j)<|xsgF j j j j<|xsgF j j j j<|xsgF j j j j<|xsgF j j j j<|xq (oPkT j j j j)<|xq (oMv j j)<|xsgF j j j j<|xsgF j j j j<|xsgF j j j j<|xsgF j j j j<|xq (oPkT j j j j)<|xq (oMv j j)<|xsgF j j j j<|xsgF j j j j<|xsgF j j j j<|xsgF j j j j<|xq (oPkT j j j j)<|xq (oAsI j j)<|xn
  ·obtain ⟨x18,hx18,hm5⟩:=bs hm5
   refine xqT j j (byF iR hc1) (oLd (cs:=[.im 0 _,.im 0 _]) j tF264 j j)<|xqT j j (byF iR hc1) (oLd (cs:=[.im 0 _,.im 0 _]) j tF264 j j)<|xqT j j (byF iR hc1) (oLd (cs:=[.im 0 _,.im 0 _]) j tF264 j j)<|xqT j j (byF iR hc1) (oCa (xs:=[.v true [.im 0 _,.im 0 _],.v true [.im 0 _,.im 0 _],.v true [.im 0 _,.im 0 _]]) (vs:=[(false,[.im 0 _])]) (v:=.v false [.im 0 _]) (L_spec_l02On hx18) (.inl j) j kF271_264_264_264 j (ppC j (ppC j (ppC j pp0))) j j pb0 j j j)<|xq (oPkF j j (byF iR hc1) j)<|xq (oMv j j)<|?_
   refine ic hm5 (fun hc2 hm5=>?_) fun hc2 hm5=>?_
   ·cases hm5
    exact xsgF j j (iR.2 hc2) j<|xsgF j j (iR.2 hc2) j<|xsgF j j (iR.2 hc2) j<|xsgF j j (iR.2 hc2) j<|xq (oPkT j j (iR.2 hc2) j)<|xq (oMv j j)<|xsgF j j j j<|xsgF j j j j<|xsgF j j j j<|xsgF j j j j<|xq (oPkT j j j j)<|xq (oMv j j)<|xsgF j j j j<|xsgF j j j j<|xsgF j j j j<|xsgF j j j j<|xq (oPkT j j j j)<|xq (oAsI j j)<|xn
   ·obtain ⟨x24,hx24,hm5⟩:=bs hm5
    refine xqT j j (byF iR hc2) (oLd (cs:=[.im 0 _,.im 0 _]) j tF264 j j)<|xqT j j (byF iR hc2) (oLd (cs:=[.im 0 _,.im 0 _]) j tF264 j j)<|xqT j j (byF iR hc2) (oLd (cs:=[.im 0 _,.im 0 _]) j tF264 j j)<|xqT j j (byF iR hc2) (oCa (xs:=[.v true [.im 0 _,.im 0 _],.v true [.im 0 _,.im 0 _],.v true [.im 0 _,.im 0 _]]) (vs:=[(false,[.im 0 _])]) (v:=.v false [.im 0 _]) (L_spec_l02On hx24) (.inl j) j kF271_264_264_264 j (ppC j (ppC j (ppC j pp0))) j j pb0 j j j)<|xq (oPkF j j (byF iR hc2) j)<|xq (oMv j j)<|?_
    refine ic hm5 (fun hc3 hm5=>?_) fun hc3 hm5=>?_
    ·cases hm5
     exact xsgF j j (iR.2 hc3) j<|xsgF j j (iR.2 hc3) j<|xsgF j j (iR.2 hc3) j<|xsgF j j (iR.2 hc3) j<|xq (oPkT j j (iR.2 hc3) j)<|xq (oMv j j)<|xsgF j j j j<|xsgF j j j j<|xsgF j j j j<|xsgF j j j j<|xq (oPkT j j j j)<|xq (oAsI j j)<|xn
    ·obtain ⟨x30,hx30,hm5⟩:=bs hm5
     refine xqT j j (byF iR hc3) (oLd (cs:=[.im 0 _,.im 0 _]) j tF264 j j)<|xqT j j (byF iR hc3) (oLd (cs:=[.im 0 _,.im 0 _]) j tF264 j j)<|xqT j j (byF iR hc3) (oLd (cs:=[.im 0 _,.im 0 _]) j tF264 j j)<|xqT j j (byF iR hc3) (oCa (xs:=[.v true [.im 0 _,.im 0 _],.v true [.im 0 _,.im 0 _],.v true [.im 0 _,.im 0 _]]) (vs:=[(false,[.im 0 _])]) (v:=.v false [.im 0 _]) (L_spec_l02On hx30) (.inl j) j kF271_264_264_264 j (ppC j (ppC j (ppC j pp0))) j j pb0 j j j)<|xq (oPkF j j (byF iR hc3) j)<|xq (oMv j j)<|?_
     refine ic hm5 (fun hc4 hm5=>?_) fun hc4 hm5=>?_
     ·cases hm5
      exact xsgF j j (iR.2 hc4) j<|xsgF j j (iR.2 hc4) j<|xsgF j j (iR.2 hc4) j<|xsgF j j (iR.2 hc4) j<|xq (oPkT j j (iR.2 hc4) j)<|xq (oAsI j j)<|xn
     ·obtain ⟨x36,hx36,hm5⟩:=bs hm5
      cases hm5
      exact xqT j j (byF iR hc4) (oLd (cs:=[.im 0 _,.im 0 _]) j tF264 j j)<|xqT j j (byF iR hc4) (oLd (cs:=[.im 0 _,.im 0 _]) j tF264 j j)<|xqT j j (byF iR hc4) (oLd (cs:=[.im 0 _,.im 0 _]) j tF264 j j)<|xqT j j (byF iR hc4) (oCa (xs:=[.v true [.im 0 _,.im 0 _],.v true [.im 0 _,.im 0 _],.v true [.im 0 _,.im 0 _]]) (vs:=[(false,[.im 0 _])]) (v:=.v false [.im 0 _]) (L_spec_l02On hx36) (.inl j) j kF271_264_264_264 j (ppC j (ppC j (ppC j pp0))) j j pb0 j j j)<|xq (oPkF j j (byF iR hc4) j)<|xq (oAsI j j)<|xn
 ·refine us<|Go.ret (Unw.ret ?_)
  cases h
  exact fr rF272 j
theorem L_spec_l03Area {p_0:(List S_Point)} {r:Int} (h:spec_l03Area p_0=some r):FX 273 [.im 2 false [W 2 e_S_Point p_0]] (B0 [(false,[.im 0 (I r)])]):=by
 unfold spec_l03Area at h
 refine gn 40 Try.func273 rfl ?_
 refine gs<|g0 j j (q (oAsI j j)<|nl)<|us<|gs<|g0 j j (q (oAsI j j)<|nl)<|us<|gs<|gs<|g0 j j (q (oAsI j j)<|nl)<|us<|Go.block<|?_
 obtain ⟨o,hl,h⟩:=bs h
 refine gl c273 j _ (fun (s:(Int×Int))=>match s with | (sum_3_l3,i_4_l3)=>mk [(0,D 2 (W 2 e_S_Point p_0)),(3,iv sum_3_l3),(4,iv i_4_l3)] []) (fun (sum_3_e0_3:Int) (p:Ex×St)=>p.1= .exit 0∧p.2.norm ([3],[])=mk [(3,iv sum_3_e0_3)] []) hl (by kernel_rfl) ?_ ?_ ?_
 ·intro o p hp e
  exact nomatch (hp.1.symm.trans e)
 ·rintro ⟨sum_3_l3,i_4_l3⟩ o h
  unfold spec_l03Area_l3 at h
  dsimp only at h
  refine gs<|gs<|g0 j j (q (oMv j j)<|q (oMv j j)<|q (oLnI j j uF23 j)<|q (oBi j j j j)<|nl)<|us<|gc h j iDec (fun hc3 h=>?_) fun hc3 h=>?_
  ·refine Go.skip<|us<|gs<|Go.block<|gs<|?_
   obtain ⟨x17,hx17,h⟩:=bs h
   obtain ⟨x18,hx18,h⟩:=bs h
   refine g0 j j (q (oMv j j)<|q (oMv j j)<|q (oBi j j j j)<|q (oMv j j)<|q (oLnI j j uF23 j)<|q (oRem j hx17 j j)<|q (oIAI j hx18 sF23 j j)<|q (oLd (cs:=[.im 2 _,.im 2 _]) j tF264 j j)<|q (oAl j tF264 (tkI (tkI tk0)))<|q (oSt tF264 j j j (tkI (tkI tk0)) j j j)<|nl)<|us<|?_
   obtain ⟨x23,hx23,h⟩:=bs h
   obtain ⟨x31,hx31,h⟩:=bs h
   refine gd c273 j j j (st1:=mk [(0,D 2 (W 2 e_S_Point p_0)),(3,iv sum_3_l3),(4,iv i_4_l3),(5,M 5)] [(5,Oa (G 0 (u_S_Point x18)))]) (by kernel_rfl) (mk [(0,D 2 (W 2 e_S_Point p_0)),(3,iv (w64 (sum_3_l3+(w64 ((w64 (x23.X*x18.Y)) - (w64 (x31.Y*x18.X))))))),(4,iv i_4_l3)] []) (t j j (oMv j j)<|t j j (oMv j j)<|t j j (oMv j j)<|t j j (oIAI j hx23 sF23 j j)<|t j j (oFA (r':=.im 2 _) j fF264_0 j j)<|t j j (oLd (cs:=[.im 2 _]) j tF2 j j)<|t j j (oFA (r':=.mp 5 0 1) j fF264_1 j j)<|t j j (oLd (cs:=[.im 0 _]) j tF2 j j)<|t j j (oBi j j j j)<|t j j (oMv j j)<|t j j (oMv j j)<|t j j (oIAI j hx31 sF23 j j)<|t j j (oFA (r':=.im 2 _) j fF264_1 j j)<|t j j (oLd (cs:=[.im 2 _]) j tF2 j j)<|t j j (oFA (r':=.mp 5 0 0) j fF264_0 j j)<|t j j (oLd (cs:=[.im 0 _]) j tF2 j j)<|t j j (oBi j j j j)<|t j j (oBi j j j j)<|t j j (oBi j j j j)<|sS (dN z273 j (oAsI j j)) trivial (sD (by kernel_rfl)))<|Unw.blk<|us<|g0 j j (q (oMv j j)<|q (oBi j j j j)<|q (oAsI j j)<|nl)<|Unw.nil<|?_
   cases h
   exact ⟨j,(by kernel_rfl)⟩
  ·refine Go.exit<|ux<|Unw.nil<|?_
   cases h
   exact ⟨j,(by kernel_rfl)⟩
 ·rintro ⟨e,st⟩ hp
  obtain ⟨sum_3_e0_3,rfl⟩:∃y,y=o:=⟨o,rfl⟩
  obtain ⟨he,hst⟩:=hp
  obtain rfl:e= .exit 0:=he
  refine Unw.blkx<|us<|gs<|g2 c273 j j hst (q (oMv j j)<|q (oAsI j j)<|nl)<|us<|Go.ret (Unw.ret ?_)
  cases h
  exact fr rF273 j
theorem L_spec_l03Ok {p_0:(List S_Point)} {r:Bool} (h:spec_l03Ok p_0=some r):FX 174 [.im 2 false [W 2 e_S_Point p_0]] (B0 [(false,[.im 0 (V r)])]):=by
 unfold spec_l03Ok at h
 refine gn 99 Try.func174 rfl ?_
 refine gs<|g0 j j (q (oAsI j j)<|nl)<|us<|gs<|g0 j j (q (oMv j j)<|q (oLnI j j uF23 j)<|q (oAsI j j)<|nl)<|us<|gs<|gs<|gX c174 j j j (mk [(0,D 2 (W 2 e_S_Point p_0)),(3,iv (p_0.length:Int)),(17,bv ((decide ((p_0.length:Int) <3))||(decide ((p_0.length:Int) >24))))] []) ?_ ?_
 ·refine xq (oMv j j)<|xq (oBi j j j j)<|xq (oMv j j)<|?_
  by_cases hc1:(p_0.length:Int) <3
  ·exact xsgF rfl rfl (iDec.2 hc1) rfl<|xsgF rfl rfl (iDec.2 hc1) rfl<|xq (oPkT rfl rfl (iDec.2 hc1) rfl)<|xn (Eq.trans (b:=(fun t_17_m2:Bool=>mk [(0,D 2 (W 2 e_S_Point p_0)),(3,iv (p_0.length:Int)),(17,bv t_17_m2)] []) true) (by kernel_rfl) (congrArg (fun t_17_m2:Bool=>mk [(0,D 2 (W 2 e_S_Point p_0)),(3,iv (p_0.length:Int)),(17,bv t_17_m2)] []) (by first | rfl | (simp [(iDec.2 hc1)];done) | (simp [(iDec.2 hc1)];omega))))
  ·exact xqT rfl rfl (byF iDec hc1) (oMv rfl rfl)<|xqT rfl rfl (byF iDec hc1) (oBi rfl rfl rfl rfl)<|xq (oPkF rfl rfl (byF iDec hc1) rfl)<|xn (Eq.trans (b:=(fun t_17_m2:Bool=>mk [(0,D 2 (W 2 e_S_Point p_0)),(3,iv (p_0.length:Int)),(17,bv t_17_m2)] []) (decide ((p_0.length:Int) >24))) (by kernel_rfl) (congrArg (fun t_17_m2:Bool=>mk [(0,D 2 (W 2 e_S_Point p_0)),(3,iv (p_0.length:Int)),(17,bv t_17_m2)] []) (by first | rfl | (simp [(byF iDec hc1)];done) | (simp [(byF iDec hc1)];omega))))
 ·refine us<|gc h j (iOr iDec iDec) (fun hc2 h=>?_) fun hc2 h=>?_
  ·refine gs<|g0 j j (q (oAsI j j)<|nl)<|us<|Go.ret (Unw.ret ?_)
   cases h
   exact fr rF174 j
  ·refine Go.skip<|us<|gs<|gs<|g0 j j (q (oAsI j j)<|nl)<|us<|Go.block<|?_
   obtain ⟨o,hl,h⟩:=bs h
   refine gl c174 j _ (fun (i_4_l5:Int)=>mk [(0,D 2 (W 2 e_S_Point p_0)),(3,iv (p_0.length:Int)),(4,iv i_4_l5)] []) (fun (o:(Unit ⊕ Bool)) (p:Ex×St)=>match o with | (.inl _)=>p.1= .exit 0∧p.2.norm ([0,3],[])=mk [(0,D 2 (W 2 e_S_Point p_0)),(3,iv (p_0.length:Int))] [] | (.inr r2)=>p.1= .ret∧fin Try.prog cfg 174 Try.f174 [.im 2 false [W 2 e_S_Point p_0]] p.2=some (B0 [(false,[.im 0 (V r2)])])) hl (by kernel_rfl) ?_ ?_ ?_
   ·intro o p hp e
    rcases o with u | r2<;>exact nomatch (hp.1.symm.trans e)
   ·rintro i_4_l5 o h
    unfold spec_l03Ok_l5 at h
    refine gs<|gs<|g0 j j (q (oMv j j)<|q (oMv j j)<|q (oBi j j j j)<|nl)<|us<|gc h j iDec (fun hc50 h=>?_) fun hc50 h=>?_
    ·refine Go.skip<|us<|gs<|Go.block<|gs<|?_
     obtain ⟨x25,hx25,h⟩:=bs h
     obtain ⟨x27,hx27,h⟩:=bs h
     refine g0 j j (q (oMv j j)<|q (oMv j j)<|q (oIAI j hx25 sF23 j j)<|q (oLd (cs:=[.im 2 _,.im 2 _]) j tF264 j j)<|q (oCa (xs:=[.v true [.im 2 _,.im 2 _]]) (vs:=[(false,[.im 0 _])]) (v:=.v false [.im 0 _]) (L_spec_l02Ok hx27) (.inl j) j kF270_264 j (ppC j pp0) j j pb0 j j j)<|q (oUn j j j)<|nl)<|us<|?_
     by_cases hc51:x27=true
     ·rw [if_pos hc51] at h
      refine gF j (nF (iR.2 hc51))<|Go.skip<|Unw.blk<|us<|g0 j j (q (oMv j j)<|q (oBi j j j j)<|q (oAsI j j)<|nl)<|Unw.nil<|?_
      cases h
      exact ⟨j,(by kernel_rfl)⟩
     ·rw [if_neg hc51] at h
      refine gT j (nT (byF iR hc51))<|gs<|g0 j j (q (oAsI j j)<|nl)<|us<|Go.ret (Unw.ret ?_)
      cases h
      exact ⟨j,(fo rF174 j)⟩
    ·refine Go.exit<|ux<|Unw.nil<|?_
     cases h
     exact ⟨j,(by kernel_rfl)⟩
   ·rintro ⟨e,st⟩ hp
    rcases o with u | r2
    ·dsimp only at h
     obtain ⟨he,hst⟩:=hp
     obtain rfl:e= .exit 0:=he
     refine Unw.blkx<|us<|gs<|gs<|g2 c174 j j hst (q (oAsI j j)<|nl)<|us<|Go.block<|?_
     obtain ⟨o,hl,h⟩:=bs h
     refine gl c174 j _ (fun (i_5_l10:Int)=>mk [(0,D 2 (W 2 e_S_Point p_0)),(3,iv (p_0.length:Int)),(5,iv i_5_l10)] []) (fun (o:(Unit ⊕ Bool)) (p:Ex×St)=>match o with | (.inl _)=>p.1= .exit 2∧p.2.norm ([0],[])=mk [(0,D 2 (W 2 e_S_Point p_0))] [] | (.inr r2)=>p.1= .ret∧fin Try.prog cfg 174 Try.f174 [.im 2 false [W 2 e_S_Point p_0]] p.2=some (B0 [(false,[.im 0 (V r2)])])) hl (by kernel_rfl) ?_ ?_ ?_
     ·intro o p hp e
      rcases o with u | r2<;>exact nomatch (hp.1.symm.trans e)
     ·rintro i_5_l10 o h
      unfold spec_l03Ok_l10 at h
      refine gs<|gs<|g0 j j (q (oMv j j)<|q (oMv j j)<|q (oBi j j j j)<|nl)<|us<|gc h j iDec (fun hc33 h=>?_) fun hc33 h=>?_
      ·refine Go.skip<|us<|gs<|Go.block<|gs<|?_
       obtain ⟨x36,hx36,h⟩:=bs h
       refine g0 j j (q (oMv j j)<|q (oMv j j)<|q (oIAI j hx36 sF23 j j)<|q (oLd (cs:=[.im 2 _,.im 2 _]) j tF264 j j)<|q (oAl j tF264 (tkI (tkI tk0)))<|q (oSt tF264 j j j (tkI (tkI tk0)) j j j)<|nl)<|us<|gs<|?_
       obtain ⟨x42,hx42,h⟩:=bs h
       obtain ⟨x43,hx43,h⟩:=bs h
       refine g1 j j (mk [(0,D 2 (W 2 e_S_Point p_0)),(3,iv (p_0.length:Int)),(5,iv i_5_l10),(6,M 6)] [(6,Oa (G 0 (u_S_Point x36)))]) (q (oMv j j)<|q (oMv j j)<|q (oBi j j j j)<|q (oMv j j)<|q (oRem j hx42 j j)<|q (oIAI j hx43 sF23 j j)<|q (oLd (cs:=[.im 2 _,.im 2 _]) j tF264 j j)<|q (oAl j tF264 (tkI (tkI tk0)))<|q (oSt tF264 j j j (tkI (tkI tk0)) j j j)<|nl)<|us<|gs<|?_
       obtain ⟨x49,hx49,h⟩:=bs h
       obtain ⟨x50,hx50,h⟩:=bs h
       refine g1 j j (mk [(0,D 2 (W 2 e_S_Point p_0)),(3,iv (p_0.length:Int)),(5,iv i_5_l10),(6,M 6),(7,M 7)] [(6,Oa (G 0 (u_S_Point x36))),(7,Oa (G 0 (u_S_Point x43)))]) (q (oMv j j)<|q (oMv j j)<|q (oBi j j j j)<|q (oMv j j)<|q (oRem j hx49 j j)<|q (oIAI j hx50 sF23 j j)<|q (oLd (cs:=[.im 2 _,.im 2 _]) j tF264 j j)<|q (oAl j tF264 (tkI (tkI tk0)))<|q (oSt tF264 j j j (tkI (tkI tk0)) j j j)<|nl)<|us<|gs<|gs<|?_
       obtain ⟨t_66_m15,hm49,h⟩:=bs h
       refine gX c174 j j (st1:=mk [(0,D 2 (W 2 e_S_Point p_0)),(3,iv (p_0.length:Int)),(5,iv i_5_l10),(6,M 6),(7,M 7),(8,M 8)] [(6,Oa (G 0 (u_S_Point x36))),(7,Oa (G 0 (u_S_Point x43))),(8,Oa (G 0 (u_S_Point x50)))]) (by kernel_rfl) (mk [(0,D 2 (W 2 e_S_Point p_0)),(3,iv (p_0.length:Int)),(5,iv i_5_l10),(6,M 6),(7,M 7),(66,bv t_66_m15)] [(6,Oa (G 0 (u_S_Point x36))),(7,Oa (G 0 (u_S_Point x43)))]) ?_ ?_
       ·refine xq (oLd (cs:=[.im 0 _,.im 0 _]) j tF264 j j)<|xq (oLd (cs:=[.im 0 _,.im 0 _]) j tF264 j j)<|xq (oBa j (qEF264 x36.X x36.Y x43.X x43.Y) j j j j)<|xq (oMv j j)<|?_
        refine ic hm49 (fun hc34 hm49=>?_) fun hc34 hm49=>?_
        ·cases hm49
         exact xsgF j j ((iAnd iEq iEq).2 hc34) j<|xsgF j j ((iAnd iEq iEq).2 hc34) j<|xsgF j j ((iAnd iEq iEq).2 hc34) j<|xsgF j j ((iAnd iEq iEq).2 hc34) j<|xq (oPkT j j ((iAnd iEq iEq).2 hc34) j)<|xq (oMv j j)<|xsgF j j j j<|xsgF j j j j<|xsgF j j j j<|xsgF j j j j<|xq (oPkT j j j j)<|xn
        ·obtain ⟨x59,hx59,hm49⟩:=bs hm49
         refine xqT j j (byF (iAnd iEq iEq) hc34) (oLd (cs:=[.im 0 _,.im 0 _]) j tF264 j j)<|xqT j j (byF (iAnd iEq iEq) hc34) (oLd (cs:=[.im 0 _,.im 0 _]) j tF264 j j)<|xqT j j (byF (iAnd iEq iEq) hc34) (oLd (cs:=[.im 0 _,.im 0 _]) j tF264 j j)<|xqT j j (byF (iAnd iEq iEq) hc34) (oCa (xs:=[.v true [.im 0 _,.im 0 _],.v true [.im 0 _,.im 0 _],.v true [.im 0 _,.im 0 _]]) (vs:=[(false,[.im 0 _])]) (v:=.v false [.im 0 _]) (L_spec_l02On hx59) (.inl j) j kF271_264_264_264 j (ppC j (ppC j (ppC j pp0))) j j pb0 j j j)<|xq (oPkF j j (byF (iAnd iEq iEq) hc34) j)<|xq (oMv j j)<|?_
         refine ic hm49 (fun hc35 hm49=>?_) fun hc35 hm49=>?_
         ·cases hm49
          exact xsgF j j (iR.2 hc35) j<|xsgF j j (iR.2 hc35) j<|xsgF j j (iR.2 hc35) j<|xsgF j j (iR.2 hc35) j<|xq (oPkT j j (iR.2 hc35) j)<|xn
         ·obtain ⟨x65,hx65,hm49⟩:=bs hm49
          cases hm49
          exact xqT j j (byF iR hc35) (oLd (cs:=[.im 0 _,.im 0 _]) j tF264 j j)<|xqT j j (byF iR hc35) (oLd (cs:=[.im 0 _,.im 0 _]) j tF264 j j)<|xqT j j (byF iR hc35) (oLd (cs:=[.im 0 _,.im 0 _]) j tF264 j j)<|xqT j j (byF iR hc35) (oCa (xs:=[.v true [.im 0 _,.im 0 _],.v true [.im 0 _,.im 0 _],.v true [.im 0 _,.im 0 _]]) (vs:=[(false,[.im 0 _])]) (v:=.v false [.im 0 _]) (L_spec_l02On hx65) (.inl j) j kF271_264_264_264 j (ppC j (ppC j (ppC j pp0))) j j pb0 j j j)<|xq (oPkF j j (byF iR hc35) j)<|xn
       ·refine us<|gc h j iR (fun hc36 h=>?_) fun hc36 h=>?_
        ·refine gs<|g0 j j (q (oAsI j j)<|nl)<|us<|Go.ret (Unw.ret ?_)
         cases h
         exact ⟨j,(fo rF174 j)⟩
        ·refine Go.skip<|us<|gs<|g0 j j (q (oMv j j)<|q (oBi j j j j)<|q (oAsI j j)<|nl)<|us<|Go.block<|?_
         obtain ⟨o,hl,h⟩:=bs h
         refine gl c174 j _ (fun (k_9_l18:Int)=>mk [(0,D 2 (W 2 e_S_Point p_0)),(3,iv (p_0.length:Int)),(5,iv i_5_l10),(6,M 6),(7,M 7),(9,iv k_9_l18)] [(6,Oa (G 0 (u_S_Point x36))),(7,Oa (G 0 (u_S_Point x43)))]) (fun (o:(Unit ⊕ Bool)) (p:Ex×St)=>match o with | (.inl _)=>p.1= .exit 4∧p.2.norm ([0,3,5],[])=mk [(0,D 2 (W 2 e_S_Point p_0)),(3,iv (p_0.length:Int)),(5,iv i_5_l10)] [] | (.inr r2)=>p.1= .ret∧fin Try.prog cfg 174 Try.f174 [.im 2 false [W 2 e_S_Point p_0]] p.2=some (B0 [(false,[.im 0 (V r2)])])) hl (by kernel_rfl) ?_ ?_ ?_
         ·intro o p hp e
          rcases o with u | r2<;>exact nomatch (hp.1.symm.trans e)
         ·rintro k_9_l18 o h
          unfold spec_l03Ok_l18 at h
          refine gs<|gs<|g0 j j (q (oMv j j)<|q (oMv j j)<|q (oBi j j j j)<|nl)<|us<|gc h j iDec (fun hc45 h=>?_) fun hc45 h=>?_
          ·refine Go.skip<|us<|gs<|Go.block<|gs<|?_
           obtain ⟨x77,hx77,h⟩:=bs h
           obtain ⟨t_95_m20,hm48,h⟩:=bs h
           refine gd c174 j j j j (mk [(0,D 2 (W 2 e_S_Point p_0)),(3,iv (p_0.length:Int)),(5,iv i_5_l10),(6,M 6),(7,M 7),(9,iv k_9_l18),(95,bv t_95_m20)] [(6,Oa (G 0 (u_S_Point x36))),(7,Oa (G 0 (u_S_Point x43)))]) ?_ ?_
           ·refine t j j (oMv j j)<|t j j (oBi j j j j)<|t j j (oMv j j)<|t j j (oRem j hx77 j j)<|t j j (oMv j j)<|t j j (oBi j j j j)<|t j j (oMv j j)<|?_
            refine ic hm48 (fun hc46 hm48=>?_) fun hc46 hm48=>?_
            ·obtain ⟨x85,hx85,hm48⟩:=bs hm48
             obtain ⟨x91,hx91,hm48⟩:=bs hm48
             obtain ⟨x92,hx92,hm48⟩:=bs hm48
             obtain ⟨x94,hx94,hm48⟩:=bs hm48
             cases hm48
             exact tT j j j j (iNe.2 hc46) (oLd (cs:=[.im 0 _,.im 0 _]) j tF264 j j)<|tT j j j j (iNe.2 hc46) (oLd (cs:=[.im 0 _,.im 0 _]) j tF264 j j)<|tT j j j j (iNe.2 hc46) (oMv j j)<|tT j j j j (iNe.2 hc46) (oMv j j)<|tT j j j j (iNe.2 hc46) (oIAI j hx85 sF23 j j)<|tT j j j j (iNe.2 hc46) (oLd (cs:=[.im 2 _,.im 2 _]) j tF264 j j)<|tT j j j j (iNe.2 hc46) (oMv j j)<|tT j j j j (iNe.2 hc46) (oMv j j)<|tT j j j j (iNe.2 hc46) (oBi j j j j)<|tT j j j j (iNe.2 hc46) (oMv j j)<|tT j j j j (iNe.2 hc46) (oRem j hx91 j j)<|tT j j j j (iNe.2 hc46) (oIAI j hx92 sF23 j j)<|tT j j j j (iNe.2 hc46) (oLd (cs:=[.im 2 _,.im 2 _]) j tF264 j j)<|sS (dT z174 j j j (iNe.2 hc46) (oCa (xs:=[.v true [.im 0 _,.im 0 _],.v true [.im 0 _,.im 0 _],.v true [.im 2 _,.im 2 _],.v true [.im 2 _,.im 2 _]]) (vs:=[(false,[.im 0 _])]) (v:=.v false [.im 0 _]) (L_spec_l03Meet hx94) (.inl j) j kF272_264_264_264_264 j (ppC j (ppC j (ppC j (ppC j pp0)))) j j pb0 j j j)) trivial (t j j (oPkT j j (iNe.2 hc46) j)<|sD (by kernel_rfl))
            ·cases hm48
             exact tF j j j j (byF iNe hc46) j<|tF j j j j (byF iNe hc46) j<|tF j j j j (byF iNe hc46) j<|tF j j j j (byF iNe hc46) j<|tF j j j j (byF iNe hc46) j<|tF j j j j (byF iNe hc46) j<|tF j j j j (byF iNe hc46) j<|tF j j j j (byF iNe hc46) j<|tF j j j j (byF iNe hc46) j<|tF j j j j (byF iNe hc46) j<|tF j j j j (byF iNe hc46) j<|tF j j j j (byF iNe hc46) j<|tF j j j j (byF iNe hc46) j<|sS (dF j j j (byF iNe hc46) j) trivial (t j j (oPkF j j (byF iNe hc46) j)<|sD (by kernel_rfl))
           ·refine us<|gc h j iR (fun hc47 h=>?_) fun hc47 h=>?_
            ·refine gs<|g0 j j (q (oAsI j j)<|nl)<|us<|Go.ret (Unw.ret ?_)
             cases h
             exact ⟨j,(fo rF174 j)⟩
            ·refine Go.skip<|Unw.blk<|us<|g0 j j (q (oMv j j)<|q (oBi j j j j)<|q (oAsI j j)<|nl)<|Unw.nil<|?_
             cases h
             exact ⟨j,(by kernel_rfl)⟩
          ·refine Go.exit<|ux<|Unw.nil<|?_
           cases h
           exact ⟨j,(by kernel_rfl)⟩
         ·rintro ⟨e,st⟩ hp
          rcases o with u | r2
          ·dsimp only at h
           obtain ⟨he,hst⟩:=hp
           obtain rfl:e= .exit 4:=he
           refine Unw.blkx<|Unw.blk<|us<|g2 c174 j j hst (q (oMv j j)<|q (oBi j j j j)<|q (oAsI j j)<|nl)<|Unw.nil<|?_
           cases h
           exact ⟨j,(by kernel_rfl)⟩
          ·dsimp only at h
           obtain ⟨he,hfin⟩:=hp
           obtain rfl:e= .ret:=he
           cases h
           exact Unw.ret ⟨j,hfin⟩
      ·refine Go.exit<|ux<|Unw.nil<|?_
       cases h
       exact ⟨j,(by kernel_rfl)⟩
     ·rintro ⟨e,st⟩ hp
      rcases o with u | r2
      ·dsimp only at h
       obtain ⟨he,hst⟩:=hp
       obtain rfl:e= .exit 2:=he
       refine Unw.blkx<|us<|gs<|?_
       obtain ⟨x97,hx97,h⟩:=bs h
       refine g2 c174 j j hst (q (oMv j j)<|q (oCa (xs:=[.v false [.im 2 _]]) (vs:=[(false,[.im 0 _])]) (v:=.v false [.im 0 _]) (L_spec_l03Area hx97) (.inl j) j kF273_23 j (ppC j pp0) j j pb0 j j j)<|q (oBi j j j j)<|q (oAsI j j)<|nl)<|us<|Go.ret (Unw.ret ?_)
       cases h
       exact fr rF174 j
      ·dsimp only at h
       obtain ⟨he,hfin⟩:=hp
       obtain rfl:e= .ret:=he
       cases h
       exact Unw.ret (Fin_ret hfin)
    ·dsimp only at h
     obtain ⟨he,hfin⟩:=hp
     obtain rfl:e= .ret:=he
     cases h
     exact Unw.ret (Fin_ret hfin)
theorem L_spec_l05Ok {d_0:S_Drawing} {r:Bool} (h:spec_l05Ok d_0=some r):FX 84 [.im 2 false [.cp (u_S_Drawing d_0) 0]] (B0 [(false,[.im 0 (V r)])]):=by
 unfold spec_l05Ok at h
 refine gn 96 Try.func84 rfl ?_
 refine gs<|g0 j j (q (oAsI j j)<|nl)<|us<|gs<|gs<|?_
 obtain ⟨x10,hx10,h⟩:=bs h
 obtain ⟨t_32_m1,hm29,h⟩:=bs h
 refine gX c84 j j j (mk [(0,D 2 (.cp (u_S_Drawing d_0) 0)),(32,bv t_32_m1)] []) ?_ ?_
 ·refine xq (oMv j j)<|xq (oNl j j j)<|xq (oFA (r':=.im 2 _) j fF26_0 j j)<|xq (oLd (cs:=[.im 2 _]) j tF2 j j)<|xq (oCa (xs:=[.v false [.im 2 _],.v false [.im 0 _],.v false [.im 0 _]]) (vs:=[(false,[.im 0 _])]) (v:=.v false [.im 0 _]) (L_spec_l00In hx10) (.inl j) j kF94_2_2_2 j (ppC j (ppC j (ppC j pp0))) j j pb0 j j j)<|xq (oUn j j j)<|xq (oMv j j)<|?_
  refine ic hm29 (fun hc1 hm29=>?_) fun hc1 hm29=>?_
  ·obtain ⟨x17,hx17,hm29⟩:=bs hm29
   refine xqT j j (nF (iR.2 hc1)) (oMv j j)<|xqT j j (nF (iR.2 hc1)) (oNl j j j)<|xqT j j (nF (iR.2 hc1)) (oFA (r':=.im 2 _) j fF26_1 j j)<|xqT j j (nF (iR.2 hc1)) (oLd (cs:=[.im 2 _]) j tF2 j j)<|xqT j j (nF (iR.2 hc1)) (oCa (xs:=[.v false [.im 2 _],.v false [.im 0 _],.v false [.im 0 _]]) (vs:=[(false,[.im 0 _])]) (v:=.v false [.im 0 _]) (L_spec_l00In hx17) (.inl j) j kF94_2_2_2 j (ppC j (ppC j (ppC j pp0))) j j pb0 j j j)<|xqT j j (nF (iR.2 hc1)) (oUn j j j)<|xq (oPkF j j (nF (iR.2 hc1)) j)<|xq (oMv j j)<|?_
   refine ic hm29 (fun hc2 hm29=>?_) fun hc2 hm29=>?_
   ·obtain ⟨x22,hx22,hm29⟩:=bs hm29
    refine xqT j j (nF (iR.2 hc2)) (oMv j j)<|xqT j j (nF (iR.2 hc2)) (oCa (xs:=[.v false [.im 2 _]]) (vs:=[(false,[.im 0 _])]) (v:=.v false [.im 0 _]) (L_spec_l05Points hx22) (.inl j) j kF171_141 j (ppC j pp0) j j pb0 j j j)<|xqT j j (nF (iR.2 hc2)) (oUn j j j)<|xq (oPkF j j (nF (iR.2 hc2)) j)<|xq (oMv j j)<|?_
    refine ic hm29 (fun hc3 hm29=>?_) fun hc3 hm29=>?_
    ·cases hm29
     exact xqT j j (nF (iR.2 hc3)) (oMv j j)<|xqT j j (nF (iR.2 hc3)) (oNl j j j)<|xqT j j (nF (iR.2 hc3)) (oFA (r':=.im 2 _) j fF26_3 j j)<|xqT j j (nF (iR.2 hc3)) (oLd (cs:=[.im 2 _]) j tF24 j j)<|xqT j j (nF (iR.2 hc3)) (oLnI j j uF24 j)<|xqT j j (nF (iR.2 hc3)) (oBi j j j j)<|xq (oPkF j j (nF (iR.2 hc3)) j)<|xn
    ·cases hm29
     exact xsgF j j (nT (byF iR hc3)) j<|xsgF j j (nT (byF iR hc3)) j<|xsgF j j (nT (byF iR hc3)) j<|xsgF j j (nT (byF iR hc3)) j<|xsgF j j (nT (byF iR hc3)) j<|xsgF j j (nT (byF iR hc3)) j<|xq (oPkT j j (nT (byF iR hc3)) j)<|xn
   ·cases hm29
    exact xsgF j j (nT (byF iR hc2)) j<|xsgF j j (nT (byF iR hc2)) j<|xsgF j j (nT (byF iR hc2)) j<|xq (oPkT j j (nT (byF iR hc2)) j)<|xq (oMv j j)<|xsgF j j j j<|xsgF j j j j<|xsgF j j j j<|xsgF j j j j<|xsgF j j j j<|xsgF j j j j<|xq (oPkT j j j j)<|xn
  ·cases hm29
   exact xsgF j j (nT (byF iR hc1)) j<|xsgF j j (nT (byF iR hc1)) j<|xsgF j j (nT (byF iR hc1)) j<|xsgF j j (nT (byF iR hc1)) j<|xsgF j j (nT (byF iR hc1)) j<|xsgF j j (nT (byF iR hc1)) j<|xq (oPkT j j (nT (byF iR hc1)) j)<|xq (oMv j j)<|xsgF j j j j<|xsgF j j j j<|xsgF j j j j<|xq (oPkT j j j j)<|xq (oMv j j)<|xsgF j j j j<|xsgF j j j j<|xsgF j j j j<|xsgF j j j j<|xsgF j j j j<|xsgF j j j j<|xq (oPkT j j j j)<|xn
 ·refine us<|gc h j iR (fun hc4 h=>?_) fun hc4 h=>?_
  ·refine gs<|g0 j j (q (oAsI j j)<|nl)<|us<|Go.ret (Unw.ret ?_)
   cases h
   exact fr rF84 j
  ·refine Go.skip<|us<|gs<|gs<|g0 j j (q (oAsI j j)<|nl)<|us<|Go.block<|?_
   obtain ⟨o,hl,h⟩:=bs h
   refine gl c84 j _ (fun (i_3_l4:Int)=>mk [(0,D 2 (.cp (u_S_Drawing d_0) 0)),(3,iv i_3_l4)] []) (fun (o:(Unit ⊕ Bool)) (p:Ex×St)=>match o with | (.inl _)=>p.1= .exit 0∧p.2.norm ([],[])=mk [] [] | (.inr r2)=>p.1= .ret∧fin Try.prog cfg 84 Try.f84 [.im 2 false [.cp (u_S_Drawing d_0) 0]] p.2=some (B0 [(false,[.im 0 (V r2)])])) hl (by kernel_rfl) ?_ ?_ ?_
   ·intro o p hp e
    rcases o with u | r2<;>exact nomatch (hp.1.symm.trans e)
   ·rintro i_3_l4 o h
    unfold spec_l05Ok_l4 at h
    refine gs<|gs<|g0 j j (q (oMv j j)<|q (oMv j j)<|q (oNl j j j)<|q (oFA (r':=.im 2 _) j fF26_3 j j)<|q (oLd (cs:=[.im 2 _]) j tF24 j j)<|q (oLnI j j uF24 j)<|q (oBi j j j j)<|nl)<|us<|gc h j iDec (fun hc21 h=>?_) fun hc21 h=>?_
    ·refine Go.skip<|us<|gs<|Go.block<|gs<|gs<|?_
     obtain ⟨x47,hx47,h⟩:=bs h
     obtain ⟨x50,hx50,h⟩:=bs h
     obtain ⟨t_75_m6,hm28,h⟩:=bs h
     refine gd c84 j j j j (mk [(0,D 2 (.cp (u_S_Drawing d_0) 0)),(3,iv i_3_l4),(75,bv t_75_m6)] []) ?_ ?_
     ·refine t j j (oMv j j)<|t j j (oNl j j j)<|t j j (oFA (r':=.im 2 _) j fF26_3 j j)<|t j j (oLd (cs:=[.im 2 _]) j tF24 j j)<|t j j (oMv j j)<|t j j (oIAI j hx47 sF24 j j)<|t j j (oFA (r':=.im 2 _) j fF257_0 j j)<|?_
      refine ic hm28 (fun hc22 hm28=>?_) fun hc22 hm28=>?_
      ·refine ic hm28 (fun hc23 hm28=>?_) fun hc23 hm28=>?_
       ·obtain ⟨x62,hx62,hm28⟩:=bs hm28
        obtain ⟨x70,hx70,hm28⟩:=bs hm28
        cases hm28
        exact t j j (oLd (cs:=[.im 2 _]) j tF9 j j)<|sS (dN z84 j (oCa (xs:=[.v false [.im 2 _]]) (vs:=[(false,[.im 0 _])]) (v:=.v false [.im 0 _]) (L_spec_l01Name hx50) (.inl j) j kF172_9 j (ppC j pp0) j j pb0 j j j)) trivial (t j j (oUn j j j)<|t j j (oMv j j)<|tT j j j j (nF (iR.2 hc22)) (oMv j j)<|tT j j j j (nF (iR.2 hc22)) (oBi j j j j)<|tT j j j j (nF (iR.2 hc22)) (oMv j j)<|tT j j j j (iDec.2 hc23) (oMv j j)<|tT j j j j (iDec.2 hc23) (oNl j j j)<|tT j j j j (iDec.2 hc23) (oFA (r':=.im 2 _) j fF26_3 j j)<|tT j j j j (iDec.2 hc23) (oLd (cs:=[.im 2 _]) j tF24 j j)<|tT j j j j (iDec.2 hc23) (oMv j j)<|tT j j j j (iDec.2 hc23) (oBi j j j j)<|tT j j j j (iDec.2 hc23) (oIAI j hx62 sF24 j j)<|tT j j j j (iDec.2 hc23) (oFA (r':=.im 2 _) j fF257_0 j j)<|tT j j j j (iDec.2 hc23) (oLd (cs:=[.im 2 _]) j tF9 j j)<|tT j j j j (iDec.2 hc23) (oMv j j)<|tT j j j j (iDec.2 hc23) (oNl j j j)<|tT j j j j (iDec.2 hc23) (oFA (r':=.im 2 _) j fF26_3 j j)<|tT j j j j (iDec.2 hc23) (oLd (cs:=[.im 2 _]) j tF24 j j)<|tT j j j j (iDec.2 hc23) (oMv j j)<|tT j j j j (iDec.2 hc23) (oIAI j hx70 sF24 j j)<|tT j j j j (iDec.2 hc23) (oFA (r':=.im 2 _) j fF257_0 j j)<|tT j j j j (iDec.2 hc23) (oLd (cs:=[.im 2 _]) j tF9 j j)<|tT j j j j (iDec.2 hc23) (oBi j j j j)<|tT j j j j (nF (iR.2 hc22)) (oPkT j j (iDec.2 hc23) j)<|t j j (oPkF j j (nF (iR.2 hc22)) j)<|sD (by kernel_rfl))
       ·cases hm28
        exact t j j (oLd (cs:=[.im 2 _]) j tF9 j j)<|sS (dN z84 j (oCa (xs:=[.v false [.im 2 _]]) (vs:=[(false,[.im 0 _])]) (v:=.v false [.im 0 _]) (L_spec_l01Name hx50) (.inl j) j kF172_9 j (ppC j pp0) j j pb0 j j j)) trivial (t j j (oUn j j j)<|t j j (oMv j j)<|tT j j j j (nF (iR.2 hc22)) (oMv j j)<|tT j j j j (nF (iR.2 hc22)) (oBi j j j j)<|tT j j j j (nF (iR.2 hc22)) (oMv j j)<|tF j j j j (byF iDec hc23) j<|tF j j j j (byF iDec hc23) j<|tF j j j j (byF iDec hc23) j<|tF j j j j (byF iDec hc23) j<|tF j j j j (byF iDec hc23) j<|tF j j j j (byF iDec hc23) j<|tF j j j j (byF iDec hc23) j<|tF j j j j (byF iDec hc23) j<|tF j j j j (byF iDec hc23) j<|tF j j j j (byF iDec hc23) j<|tF j j j j (byF iDec hc23) j<|tF j j j j (byF iDec hc23) j<|tF j j j j (byF iDec hc23) j<|tF j j j j (byF iDec hc23) j<|tF j j j j (byF iDec hc23) j<|tF j j j j (byF iDec hc23) j<|tF j j j j (byF iDec hc23) j<|tF j j j j (byF iDec hc23) j<|tT j j j j (nF (iR.2 hc22)) (oPkF j j (byF iDec hc23) j)<|t j j (oPkF j j (nF (iR.2 hc22)) j)<|sD (by kernel_rfl))
      ·cases hm28
       exact t j j (oLd (cs:=[.im 2 _]) j tF9 j j)<|sS (dN z84 j (oCa (xs:=[.v false [.im 2 _]]) (vs:=[(false,[.im 0 _])]) (v:=.v false [.im 0 _]) (L_spec_l01Name hx50) (.inl j) j kF172_9 j (ppC j pp0) j j pb0 j j j)) trivial (t j j (oUn j j j)<|t j j (oMv j j)<|tF j j j j (nT (byF iR hc22)) j<|tF j j j j (nT (byF iR hc22)) j<|tF j j j j (nT (byF iR hc22)) j<|sT j (dU j j j j)<|sT j (dU j j j j)<|sT j (dU j j j j)<|sT j (dU j j j j)<|sT j (dU j j j j)<|sT j (dU j j j j)<|sT j (dU j j j j)<|sT j (dU j j j j)<|sT j (dU j j j j)<|sT j (dU j j j j)<|sT j (dU j j j j)<|sT j (dU j j j j)<|sT j (dU j j j j)<|sT j (dU j j j j)<|sT j (dU j j j j)<|sT j (dU j j j j)<|sT j (dU j j j j)<|sT j (dU j j j j)<|tF j j j j (nT (byF iR hc22)) j<|t j j (oPkT j j (nT (byF iR hc22)) j)<|sD (by kernel_rfl))
     ·refine us<|gc h j iR (fun hc24 h=>?_) fun hc24 h=>?_
      ·refine gs<|g0 j j (q (oAsI j j)<|nl)<|us<|Go.ret (Unw.ret ?_)
       cases h
       exact ⟨j,(fo rF84 j)⟩
      ·refine Go.skip<|us<|gs<|?_
       obtain ⟨x83,hx83,h⟩:=bs h
       obtain ⟨x86,hx86,h⟩:=bs h
       refine g0 j j (q (oMv j j)<|q (oMv j j)<|q (oNl j j j)<|q (oFA (r':=.im 2 _) j fF26_3 j j)<|q (oLd (cs:=[.im 2 _]) j tF24 j j)<|q (oMv j j)<|q (oIAI j hx83 sF24 j j)<|q (oFA (r':=.im 2 _) j fF257_1 j j)<|q (oLd (cs:=[.im 2 _]) j tF28 j j)<|q (oCr (xs:=[.v false [.im 2 _],.v false [.im 2 _]]) (vs:=[(false,[.own 86 0 0]),(false,[.im 0 _])]) (v:=.tup [(false,[.own 86 0 0]),(false,[.im 0 _])]) (c:=⟨.sh,0,_⟩) (cs:=[]) (L_spec_l05Ring hx86) (.inl j) j kF173_141_28 j (ppC j (ppC j pp0)) j j pb0 j j j)<|q (oMvT j j)<|q (oEx j j j)<|q (oEx j j j)<|q (oAsO j j j j j)<|q (oAsI j j)<|nl)<|us<|gs<|?_
       obtain ⟨t_95_m9,hm27,h⟩:=bs h
       refine gX c84 j j j (mk [(0,D 2 (.cp (u_S_Drawing d_0) 0)),(3,iv i_3_l4),(95,bv t_95_m9)] []) ?_ ?_
       ·refine xq (oMv j j)<|xq (oUn j j j)<|xq (oMv j j)<|?_
        refine ic hm27 (fun hc25 hm27=>?_) fun hc25 hm27=>?_
        ·obtain ⟨x93,hx93,hm27⟩:=bs hm27
         cases hm27
         exact xqT j j (nF (iR.2 hc25)) (oMv j j)<|xqT j j (nF (iR.2 hc25)) (oCa (xs:=[.v false [.own 4 0 0]]) (vs:=[(false,[.im 0 _])]) (v:=.v false [.im 0 _]) (L_spec_l03Ok hx93) (.inl j) j kF174_23 j (ppC j pp0) j j pb0 j j j)<|xqT j j (nF (iR.2 hc25)) (oUn j j j)<|xq (oPkF j j (nF (iR.2 hc25)) j)<|xn
        ·cases hm27
         exact xsgF j j (nT (byF iR hc25)) j<|xsgF j j (nT (byF iR hc25)) j<|xsgF j j (nT (byF iR hc25)) j<|xq (oPkT j j (nT (byF iR hc25)) j)<|xn
       ·refine us<|gc h j iR (fun hc26 h=>?_) fun hc26 h=>?_
        ·refine gs<|g0 j j (q (oAsI j j)<|nl)<|us<|Go.ret (Unw.ret ?_)
         cases h
         exact ⟨j,(fo rF84 j)⟩
        ·refine Go.skip<|Unw.blk<|us<|g0 j j (q (oMv j j)<|q (oBi j j j j)<|q (oAsI j j)<|nl)<|Unw.nil<|?_
         cases h
         exact ⟨j,(by kernel_rfl)⟩
    ·refine Go.exit<|ux<|Unw.nil<|?_
     cases h
     exact ⟨j,(by kernel_rfl)⟩
   ·rintro ⟨e,st⟩ hp
    rcases o with u | r2
    ·dsimp only at h
     obtain ⟨he,hst⟩:=hp
     obtain rfl:e= .exit 0:=he
     refine Unw.blkx<|us<|gs<|g2 c84 j j hst (q (oAsI j j)<|nl)<|us<|Go.ret (Unw.ret ?_)
     cases h
     exact fr rF84 j
    ·dsimp only at h
     obtain ⟨he,hfin⟩:=hp
     obtain rfl:e= .ret:=he
     cases h
     exact Unw.ret (Fin_ret hfin)
theorem L_spec_l07Names {r:(List ByteArray)} (h:spec_l07Names=some r):FX 295 [] (B0 [(false,[.ow 0 1 (List.map eS r)])]):=by
 unfold spec_l07Names at h
 refine gn 2 Try.func295 rfl ?_
 refine gs<|g0 j j (q (oAsN j j eF304)<|nl)<|us<|gs<|g0 j j (q (oBS (es:=List.map eS ([(⟨#[97,115,104]⟩:ByteArray),(⟨#[98,101,101,99,104]⟩:ByteArray),(⟨#[98,105,114,99,104]⟩:ByteArray),(⟨#[99,104,101,114,114,121]⟩:ByteArray),(⟨#[101,98,111,110,121]⟩:ByteArray),(⟨#[104,111,108,108,121]⟩:ByteArray),(⟨#[109,97,112,108,101]⟩:ByteArray),(⟨#[111,97,107]⟩:ByteArray),(⟨#[114,111,115,101,119,111,111,100]⟩:ByteArray),(⟨#[119,97,108,110,117,116]⟩:ByteArray)]:List ByteArray)) j sF304 j (ptC j (fxI fx0) j (ptC j (fxI fx0) j (ptC j (fxI fx0) j (ptC j (fxI fx0) j (ptC j (fxI fx0) j (ptC j (fxI fx0) j (ptC j (fxI fx0) j (ptC j (fxI fx0) j (ptC j (fxI fx0) j (ptC j (fxI fx0) j pt0)))))))))) (flat0 j fun _=>j))<|q (oAsO j j j j j)<|nl)<|us<|Go.ret (Unw.ret ?_)
 cases h
 exact fr rF295 j
theorem L_spec_l07Find {name_0:ByteArray} {r:Int} (h:spec_l07Find name_0=some r):FX 338 [.im 2 false [Y name_0]] (B0 [(false,[.im 0 (I r)])]):=by
 unfold spec_l07Find at h
 refine gn 19 Try.func338 rfl ?_
 refine gs<|g0 j j (q (oAsI j j)<|nl)<|us<|gs<|?_
 obtain ⟨x5,hx5,h⟩:=bs h
 refine g0 j j (q (oCr (xs:=[]) (vs:=[(false,[.own 5 0 0])]) (v:=.v false [.own 5 0 0]) (c:=⟨.sh,0,_⟩) (cs:=[]) (L_spec_l07Names hx5) (.inl j) j kF295_ j pp0 j j pb0 j j j)<|q (oAsO j j j j j)<|nl)<|us<|gs<|gs<|g0 j j (q (oAsI j j)<|nl)<|us<|Go.block<|?_
 obtain ⟨o,hl,h⟩:=bs h
 refine gl c338 j _ (fun (i_4_l3:Int)=>mk [(0,sv name_0),(3,H 3 0),(4,iv i_4_l3)] [(3,Oc [Z (W 1 eS x5)])]) (fun (o:(Unit ⊕ Int)) (p:Ex×St)=>match o with | (.inl _)=>p.1= .exit 0∧p.2.norm ([],[])=mk [] [] | (.inr r2)=>p.1= .ret∧fin Try.prog cfg 338 Try.f338 [.im 2 false [Y name_0]] p.2=some (B0 [(false,[.im 0 (I r2)])])) hl (by kernel_rfl) ?_ ?_ ?_
 ·intro o p hp e
  rcases o with u | r2<;>exact nomatch (hp.1.symm.trans e)
 ·rintro i_4_l3 o h
  unfold spec_l07Find_l3 at h
  refine gs<|gs<|g0 j j (q (oMv j j)<|q (oMv j j)<|q (oLnO j j uF304 j j j (fun e=>nomatch e))<|q (oBi j j j j)<|nl)<|us<|gc h j iDec (fun hc5 h=>?_) fun hc5 h=>?_
  ·refine Go.skip<|us<|gs<|Go.block<|gs<|?_
   obtain ⟨x14,hx14,h⟩:=bs h
   refine g0 j j (q (oMv j j)<|q (oMv j j)<|q (oIAO j hx14 sF304 j j j j)<|q (oLdE (cs:=[.im 0 _]) j tF9 j j j j (rd_get hx14) j j)<|q (oMv j j)<|q (oBi j j j j)<|nl)<|us<|gc h j iStr (fun hc6 h=>?_) fun hc6 h=>?_
   ·refine gs<|g0 j j (q (oMv j j)<|q (oAsI j j)<|nl)<|us<|Go.ret (Unw.ret ?_)
    cases h
    exact ⟨j,(fo rF338 j)⟩
   ·refine Go.skip<|Unw.blk<|us<|g0 j j (q (oMv j j)<|q (oBi j j j j)<|q (oAsI j j)<|nl)<|Unw.nil<|?_
    cases h
    exact ⟨j,(by kernel_rfl)⟩
  ·refine Go.exit<|ux<|Unw.nil<|?_
   cases h
   exact ⟨j,(by kernel_rfl)⟩
 ·rintro ⟨e,st⟩ hp
  rcases o with u | r2
  ·dsimp only at h
   obtain ⟨he,hst⟩:=hp
   obtain rfl:e= .exit 0:=he
   refine Unw.blkx<|us<|gs<|g2 c338 j j hst (q (oAsI j j)<|nl)<|us<|Go.ret (Unw.ret ?_)
   cases h
   exact fr rF338 j
  ·dsimp only at h
   obtain ⟨he,hfin⟩:=hp
   obtain rfl:e= .ret:=he
   cases h
   exact Unw.ret (Fin_ret hfin)
theorem L_spec_l07Table {r:(List (List Int))} (h:spec_l07Table=some r):FX 294 [] (B0 [(false,[.ow 0 1 (List.map (eL 1 eI) r)])]):=by
 unfold spec_l07Table at h
 refine gn 12 Try.func294 rfl ?_
 refine gs<|g0 j j (q (oAsN j j eF41)<|nl)<|us<|gs<|g0 j j (q (oBS (es:=List.map eI ([20,40,310]:List Int)) j sF28 j (ptC j (fxI fx0) j (ptC j (fxI fx0) j (ptC j (fxI fx0) j pt0))) (flat0 j fun _=>j))<|q (oBS (es:=List.map eI ([35,45,410]:List Int)) j sF28 j (ptC j (fxI fx0) j (ptC j (fxI fx0) j (ptC j (fxI fx0) j pt0))) (flat0 j fun _=>j))<|q (oBS (es:=List.map eI ([15,33,280]:List Int)) j sF28 j (ptC j (fxI fx0) j (ptC j (fxI fx0) j (ptC j (fxI fx0) j pt0))) (flat0 j fun _=>j))<|q (oBS (es:=List.map eI ([50,36,240]:List Int)) j sF28 j (ptC j (fxI fx0) j (ptC j (fxI fx0) j (ptC j (fxI fx0) j pt0))) (flat0 j fun _=>j))<|q (oBS (es:=List.map eI ([95,85,270]:List Int)) j sF28 j (ptC j (fxI fx0) j (ptC j (fxI fx0) j (ptC j (fxI fx0) j pt0))) (flat0 j fun _=>j))<|q (oBS (es:=List.map eI ([5,35,370]:List Int)) j sF28 j (ptC j (fxI fx0) j (ptC j (fxI fx0) j (ptC j (fxI fx0) j pt0))) (flat0 j fun _=>j))<|q (oBS (es:=List.map eI ([10,42,290]:List Int)) j sF28 j (ptC j (fxI fx0) j (ptC j (fxI fx0) j (ptC j (fxI fx0) j pt0))) (flat0 j fun _=>j))<|q (oBS (es:=List.map eI ([40,40,330]:List Int)) j sF28 j (ptC j (fxI fx0) j (ptC j (fxI fx0) j (ptC j (fxI fx0) j pt0))) (flat0 j fun _=>j))<|q (oBS (es:=List.map eI ([80,60,220]:List Int)) j sF28 j (ptC j (fxI fx0) j (ptC j (fxI fx0) j (ptC j (fxI fx0) j pt0))) (flat0 j fun _=>j))<|q (oBS (es:=List.map eI ([70,38,260]:List Int)) j sF28 j (ptC j (fxI fx0) j (ptC j (fxI fx0) j (ptC j (fxI fx0) j pt0))) (flat0 j fun _=>j))<|q (oBS (es:=List.map (eL 1 eI) ([([20,40,310]:List Int),([35,45,410]:List Int),([15,33,280]:List Int),([50,36,240]:List Int),([95,85,270]:List Int),([5,35,370]:List Int),([10,42,290]:List Int),([40,40,330]:List Int),([80,60,220]:List Int),([70,38,260]:List Int)]:List (List Int))) j sF41 j (ptC j (fxO j j fx0) j (ptC j (fxO j j fx0) j (ptC j (fxO j j fx0) j (ptC j (fxO j j fx0) j (ptC j (fxO j j fx0) j (ptC j (fxO j j fx0) j (ptC j (fxO j j fx0) j (ptC j (fxO j j fx0) j (ptC j (fxO j j fx0) j (ptC j (fxO j j fx0) j pt0)))))))))) (flat1 j))<|q (oAsO j j j j j)<|nl)<|us<|Go.ret (Unw.ret ?_)
 cases h
 exact fr rF294 j
theorem L_spec_l07Grain {g_0:Int} {r:Bool} (h:spec_l07Grain g_0=some r):FX 339 [.im 2 false [I g_0]] (B0 [(false,[.im 0 (V r)])]):=by
 unfold spec_l07Grain at h
 refine gn 5 Try.func339 rfl ?_
 refine gs<|g0 j j (q (oAsI j j)<|nl)<|us<|gs<|?_
 obtain ⟨x4,hx4,h⟩:=bs h
 refine g0 j j (q (oMv j j)<|q (oCa (xs:=[.v false [.im 2 _],.v false [.im 0 _],.v false [.im 0 _]]) (vs:=[(false,[.im 0 _])]) (v:=.v false [.im 0 _]) (L_spec_l00In hx4) (.inl j) j kF94_2_2_2 j (ppC j (ppC j (ppC j pp0))) j j pb0 j j j)<|q (oAsI j j)<|nl)<|us<|Go.ret (Unw.ret ?_)
 cases h
 exact fr rF339 j
theorem L_spec_l07Ok {v_0:S_Veneer} {r:Bool} (h:spec_l07Ok v_0=some r):FX 291 [.im 2 false [.cp (u_S_Veneer v_0) 0]] (B0 [(false,[.im 0 (V r)])]):=by
 unfold spec_l07Ok at h
 refine gn 42 Try.func291 rfl ?_
 refine gs<|g0 j j (q (oAsI j j)<|nl)<|us<|gs<|?_
 obtain ⟨x9,hx9,h⟩:=bs h
 refine g0 j j (q (oMv j j)<|q (oNl j j j)<|q (oFA (r':=.im 2 _) j fF104_0 j j)<|q (oLd (cs:=[.im 2 _]) j tF9 j j)<|q (oCa (xs:=[.v false [.im 2 _]]) (vs:=[(false,[.im 0 _])]) (v:=.v false [.im 0 _]) (L_spec_l07Find hx9) (.inl j) j kF338_9 j (ppC j pp0) j j pb0 j j j)<|q (oAsI j j)<|nl)<|us<|gs<|gs<|?_
 obtain ⟨t_19_m2,hm5,h⟩:=bs h
 refine gX c291 j j j (mk [(0,D 2 (.cp (u_S_Veneer v_0) 0)),(3,iv x9),(19,bv t_19_m2)] []) ?_ ?_
 ·refine xq (oMv j j)<|xq (oBi j j j j)<|xq (oMv j j)<|?_
  refine ic hm5 (fun hc1 hm5=>?_) fun hc1 hm5=>?_
  ·cases hm5
   exact xsgF j j (iDec.2 hc1) j<|xsgF j j (iDec.2 hc1) j<|xsgF j j (iDec.2 hc1) j<|xsgF j j (iDec.2 hc1) j<|xsgF j j (iDec.2 hc1) j<|xsgF j j (iDec.2 hc1) j<|xq (oPkT j j (iDec.2 hc1) j)<|xn
  ·obtain ⟨x17,hx17,hm5⟩:=bs hm5
   cases hm5
   exact xqT j j (byF iDec hc1) (oMv j j)<|xqT j j (byF iDec hc1) (oNl j j j)<|xqT j j (byF iDec hc1) (oFA (r':=.im 2 _) j fF104_1 j j)<|xqT j j (byF iDec hc1) (oLd (cs:=[.im 2 _]) j tF2 j j)<|xqT j j (byF iDec hc1) (oCa (xs:=[.v false [.im 2 _],.v false [.im 0 _],.v false [.im 0 _]]) (vs:=[(false,[.im 0 _])]) (v:=.v false [.im 0 _]) (L_spec_l00In hx17) (.inl j) j kF94_2_2_2 j (ppC j (ppC j (ppC j pp0))) j j pb0 j j j)<|xqT j j (byF iDec hc1) (oUn j j j)<|xq (oPkF j j (byF iDec hc1) j)<|xn
 ·refine us<|gc h j iR (fun hc2 h=>?_) fun hc2 h=>?_
  ·refine gs<|g0 j j (q (oAsI j j)<|nl)<|us<|Go.ret (Unw.ret ?_)
   cases h
   exact fr rF291 j
  ·refine Go.skip<|us<|gs<|?_
   obtain ⟨x20,hx20,h⟩:=bs h
   obtain ⟨x22,hx22,h⟩:=bs h
   obtain ⟨x24,hx24,h⟩:=bs h
   refine g0 j j (q (oCr (xs:=[]) (vs:=[(false,[.own 20 0 0])]) (v:=.v false [.own 20 0 0]) (c:=⟨.sh,0,_⟩) (cs:=[]) (L_spec_l07Table hx20) (.inl j) j kF294_ j pp0 j j pb0 j j j)<|q (oMv j j)<|q (oIAO j hx22 sF41 j j j j)<|q (oLdE (cs:=[.im 0 _]) j tF28 j j j j (rd_get hx22) j j)<|q (oIAI j hx24 sF28 j j)<|q (oLd (cs:=[.im 0 _]) j tF2 j j)<|q (oAsI j j)<|nl)<|us<|gs<|?_
   obtain ⟨x34,hx34,h⟩:=bs h
   obtain ⟨t_2_m5,hm4,h⟩:=bs h
   refine gX c291 j j j (mk [(2,bv t_2_m5)] []) ?_ ?_
   ·refine xq (oMv j j)<|xq (oNl j j j)<|xq (oFA (r':=.im 2 _) j fF104_1 j j)<|xq (oLd (cs:=[.im 2 _]) j tF2 j j)<|xq (oMv j j)<|xq (oBi j j j j)<|xq (oMv j j)<|xq (oBi j j j j)<|xq (oCa (xs:=[.v false [.im 2 _],.v false [.im 0 _],.v false [.im 0 _]]) (vs:=[(false,[.im 0 _])]) (v:=.v false [.im 0 _]) (L_spec_l00In hx34) (.inl j) j kF94_2_2_2 j (ppC j (ppC j (ppC j pp0))) j j pb0 j j j)<|xq (oMv j j)<|?_
    refine ic hm4 (fun hc3 hm4=>?_) fun hc3 hm4=>?_
    ·obtain ⟨x40,hx40,hm4⟩:=bs hm4
     cases hm4
     exact xqT j j (iR.2 hc3) (oMv j j)<|xqT j j (iR.2 hc3) (oNl j j j)<|xqT j j (iR.2 hc3) (oFA (r':=.im 2 _) j fF104_2 j j)<|xqT j j (iR.2 hc3) (oLd (cs:=[.im 2 _]) j tF2 j j)<|xqT j j (iR.2 hc3) (oCa (xs:=[.v false [.im 2 _]]) (vs:=[(false,[.im 0 _])]) (v:=.v false [.im 0 _]) (L_spec_l07Grain hx40) (.inl j) j kF339_2 j (ppC j pp0) j j pb0 j j j)<|xq (oPkT j j (iR.2 hc3) j)<|xq (oAsI j j)<|xn
    ·cases hm4
     exact xsgF j j (byF iR hc3) j<|xsgF j j (byF iR hc3) j<|xsgF j j (byF iR hc3) j<|xsgF j j (byF iR hc3) j<|xsgF j j (byF iR hc3) j<|xq (oPkF j j (byF iR hc3) j)<|xq (oAsI j j)<|xn
   ·refine us<|Go.ret (Unw.ret ?_)
    cases h
    exact fr rF291 j
theorem L_spec_l15Sheets {list_0:(List S_Veneer)} {r:Bool} (h:spec_l15Sheets list_0=some r):FX 223 [.im 2 false [W 3 e_S_Veneer list_0]] (B0 [(false,[.im 0 (V r)])]):=by
 unfold spec_l15Sheets at h
 refine gn 23 Try.func223 rfl ?_
 refine gs<|g0 j j (q (oAsI j j)<|nl)<|us<|gs<|gs<|g0 j j (q (oAsI j j)<|nl)<|us<|Go.block<|?_
 obtain ⟨o,hl,h⟩:=bs h
 refine gl c223 j _ (fun (i_3_l2:Int)=>mk [(0,D 2 (W 3 e_S_Veneer list_0)),(3,iv i_3_l2)] []) (fun (o:(Unit ⊕ Bool)) (p:Ex×St)=>match o with | (.inl _)=>p.1= .exit 0∧p.2.norm ([0],[])=mk [(0,D 2 (W 3 e_S_Veneer list_0))] [] | (.inr r2)=>p.1= .ret∧fin Try.prog cfg 223 Try.f223 [.im 2 false [W 3 e_S_Veneer list_0]] p.2=some (B0 [(false,[.im 0 (V r2)])])) hl (by kernel_rfl) ?_ ?_ ?_
 ·intro o p hp e
  rcases o with u | r2<;>exact nomatch (hp.1.symm.trans e)
 ·rintro i_3_l2 o h
  unfold spec_l15Sheets_l2 at h
  refine gs<|gs<|g0 j j (q (oMv j j)<|q (oMv j j)<|q (oLnI j j uF84 j)<|q (oBi j j j j)<|nl)<|us<|gc h j iDec (fun hc6 h=>?_) fun hc6 h=>?_
  ·refine Go.skip<|us<|gs<|Go.block<|gs<|?_
   obtain ⟨x12,hx12,h⟩:=bs h
   obtain ⟨x13,hx13,h⟩:=bs h
   refine g0 j j (q (oMv j j)<|q (oMv j j)<|q (oIAI j hx12 sF84 j j)<|q (oCa (xs:=[.v false [.im 2 _]]) (vs:=[(false,[.im 0 _])]) (v:=.v false [.im 0 _]) (L_spec_l07Ok hx13) (.inl j) j kF291_360 j (ppC j pp0) j j pb0 j j j)<|q (oUn j j j)<|nl)<|us<|?_
   by_cases hc7:x13=true
   ·rw [if_pos hc7] at h
    refine gF j (nF (iR.2 hc7))<|Go.skip<|Unw.blk<|us<|g0 j j (q (oMv j j)<|q (oBi j j j j)<|q (oAsI j j)<|nl)<|Unw.nil<|?_
    cases h
    exact ⟨j,(by kernel_rfl)⟩
   ·rw [if_neg hc7] at h
    refine gT j (nT (byF iR hc7))<|gs<|g0 j j (q (oAsI j j)<|nl)<|us<|Go.ret (Unw.ret ?_)
    cases h
    exact ⟨j,(fo rF223 j)⟩
  ·refine Go.exit<|ux<|Unw.nil<|?_
   cases h
   exact ⟨j,(by kernel_rfl)⟩
 ·rintro ⟨e,st⟩ hp
  rcases o with u | r2
  ·dsimp only at h
   obtain ⟨he,hst⟩:=hp
   obtain rfl:e= .exit 0:=he
   refine Unw.blkx<|us<|gs<|gX c223 j j hst (mk [(2,bv ((decide ((list_0.length:Int)≥1))&&(decide ((list_0.length:Int)≤8))))] []) ?_ ?_
   ·refine xq (oMv j j)<|xq (oLnI j j uF84 j)<|xq (oBi j j j j)<|xq (oMv j j)<|?_
    by_cases hc5:(list_0.length:Int)≥1
    ·exact xqT rfl rfl (iDec.2 hc5) (oMv rfl rfl)<|xqT rfl rfl (iDec.2 hc5) (oLnI rfl rfl uF84 rfl)<|xqT rfl rfl (iDec.2 hc5) (oBi rfl rfl rfl rfl)<|xq (oPkT rfl rfl (iDec.2 hc5) rfl)<|xq (oAsI rfl rfl)<|xn (Eq.trans (b:=(fun t_2_m6:Bool=>mk [(2,bv t_2_m6)] []) (decide ((list_0.length:Int)≤8))) (by kernel_rfl) (congrArg (fun t_2_m6:Bool=>mk [(2,bv t_2_m6)] []) (by first | rfl | (simp [(iDec.2 hc5)];done) | (simp [(iDec.2 hc5)];omega))))
    ·exact xsgF rfl rfl (byF iDec hc5) rfl<|xsgF rfl rfl (byF iDec hc5) rfl<|xsgF rfl rfl (byF iDec hc5) rfl<|xq (oPkF rfl rfl (byF iDec hc5) rfl)<|xq (oAsI rfl rfl)<|xn (Eq.trans (b:=(fun t_2_m6:Bool=>mk [(2,bv t_2_m6)] []) false) (by kernel_rfl) (congrArg (fun t_2_m6:Bool=>mk [(2,bv t_2_m6)] []) (by first | rfl | (simp [(byF iDec hc5)];done) | (simp [(byF iDec hc5)];omega))))
   ·refine us<|Go.ret (Unw.ret ?_)
    cases h
    exact fr rF223 j
  ·dsimp only at h
   obtain ⟨he,hfin⟩:=hp
   obtain rfl:e= .ret:=he
   cases h
   exact Unw.ret (Fin_ret hfin)
theorem L_spec_l05HasEdge {ring_0:(List Int)} {i_1:Int} {k_2:Int} {r:Bool} (h:spec_l05HasEdge ring_0 i_1 k_2=some r):FX 325 [.im 2 false [W 1 eI ring_0],.im 2 false [I i_1],.im 2 false [I k_2]] (B0 [(false,[.im 0 (V r)])]):=by
 unfold spec_l05HasEdge at h
 refine gn 46 Try.func325 rfl ?_
 refine gs<|g0 j j (q (oAsI j j)<|nl)<|us<|gs<|gs<|g0 j j (q (oAsI j j)<|nl)<|us<|Go.block<|?_
 obtain ⟨o,hl,h⟩:=bs h
 refine gl c325 j _ (fun (j_7_l2:Int)=>mk [(0,D 2 (W 1 eI ring_0)),(1,iv i_1),(2,iv k_2),(7,iv j_7_l2)] []) (fun (o:(Unit ⊕ Bool)) (p:Ex×St)=>match o with | (.inl _)=>p.1= .exit 0∧p.2.norm ([],[])=mk [] [] | (.inr r2)=>p.1= .ret∧fin Try.prog cfg 325 Try.f325 [.im 2 false [W 1 eI ring_0],.im 2 false [I i_1],.im 2 false [I k_2]] p.2=some (B0 [(false,[.im 0 (V r2)])])) hl (by kernel_rfl) ?_ ?_ ?_
 ·intro o p hp e
  rcases o with u | r2<;>exact nomatch (hp.1.symm.trans e)
 ·rintro j_7_l2 o h
  unfold spec_l05HasEdge_l2 at h
  refine gs<|gs<|g0 j j (q (oMv j j)<|q (oMv j j)<|q (oLnI j j uF28 j)<|q (oBi j j j j)<|nl)<|us<|gc h j iDec (fun hc15 h=>?_) fun hc15 h=>?_
  ·refine Go.skip<|us<|gs<|Go.block<|gs<|?_
   obtain ⟨x18,hx18,h⟩:=bs h
   refine g0 j j (q (oMv j j)<|q (oMv j j)<|q (oIAI j hx18 sF28 j j)<|q (oLd (cs:=[.im 2 _]) j tF2 j j)<|q (oAsI j j)<|nl)<|us<|gs<|?_
   obtain ⟨x25,hx25,h⟩:=bs h
   obtain ⟨x26,hx26,h⟩:=bs h
   refine g0 j j (q (oMv j j)<|q (oMv j j)<|q (oBi j j j j)<|q (oMv j j)<|q (oLnI j j uF28 j)<|q (oRem j hx25 j j)<|q (oIAI j hx26 sF28 j j)<|q (oLd (cs:=[.im 2 _]) j tF2 j j)<|q (oAsI j j)<|nl)<|us<|gs<|?_
   obtain ⟨t_45_m6,hm21,h⟩:=bs h
   refine gX c325 j j j (mk [(0,D 2 (W 1 eI ring_0)),(1,iv i_1),(2,iv k_2),(7,iv j_7_l2),(45,bv t_45_m6)] []) ?_ ?_
   ·refine xq (oMv j j)<|xq (oMv j j)<|xq (oBi j j j j)<|xq (oMv j j)<|?_
    refine ic hm21 (fun hc16 hm21=>?_) fun hc16 hm21=>?_
    ·refine xqT j j (iEq.2 hc16) (oMv j j)<|xqT j j (iEq.2 hc16) (oMv j j)<|xqT j j (iEq.2 hc16) (oBi j j j j)<|xq (oPkT j j (iEq.2 hc16) j)<|xq (oMv j j)<|?_
     refine ic hm21 (fun hc17 hm21=>?_) fun hc17 hm21=>?_
     ·cases hm21
      exact xsgF j j (iEq.2 hc17) j<|xsgF j j (iEq.2 hc17) j<|xsgF j j (iEq.2 hc17) j<|xsgF j j (iEq.2 hc17) j<|xsgU j j j<|xsgU j j j<|xsgU j j j<|xsgF j j (iEq.2 hc17) j<|xq (oPkT j j (iEq.2 hc17) j)<|xn
     ·refine xqT j j (byF iEq hc17) (oMv j j)<|xqT j j (byF iEq hc17) (oMv j j)<|xqT j j (byF iEq hc17) (oBi j j j j)<|xqT j j (byF iEq hc17) (oMv j j)<|?_
      refine ic hm21 (fun hc18 hm21=>?_) fun hc18 hm21=>?_
      ·cases hm21
       exact xqT j j (iEq.2 hc18) (oMv j j)<|xqT j j (iEq.2 hc18) (oMv j j)<|xqT j j (iEq.2 hc18) (oBi j j j j)<|xqT j j (byF iEq hc17) (oPkT j j (iEq.2 hc18) j)<|xq (oPkF j j (byF iEq hc17) j)<|xn
      ·cases hm21
       exact xsgF j j (byF iEq hc18) j<|xsgF j j (byF iEq hc18) j<|xsgF j j (byF iEq hc18) j<|xqT j j (byF iEq hc17) (oPkF j j (byF iEq hc18) j)<|xq (oPkF j j (byF iEq hc17) j)<|xn
    ·refine xsgF j j (byF iEq hc16) j<|xsgF j j (byF iEq hc16) j<|xsgF j j (byF iEq hc16) j<|xq (oPkF j j (byF iEq hc16) j)<|xq (oMv j j)<|xqT j j j (oMv j j)<|xqT j j j (oMv j j)<|xqT j j j (oBi j j j j)<|xqT j j j (oMv j j)<|?_
     refine ic hm21 (fun hc19 hm21=>?_) fun hc19 hm21=>?_
     ·cases hm21
      exact xqT j j (iEq.2 hc19) (oMv j j)<|xqT j j (iEq.2 hc19) (oMv j j)<|xqT j j (iEq.2 hc19) (oBi j j j j)<|xqT j j j (oPkT j j (iEq.2 hc19) j)<|xq (oPkF j j j j)<|xn
     ·cases hm21
      exact xsgF j j (byF iEq hc19) j<|xsgF j j (byF iEq hc19) j<|xsgF j j (byF iEq hc19) j<|xqT j j j (oPkF j j (byF iEq hc19) j)<|xq (oPkF j j j j)<|xn
   ·refine us<|gc h j iR (fun hc20 h=>?_) fun hc20 h=>?_
    ·refine gs<|g0 j j (q (oAsI j j)<|nl)<|us<|Go.ret (Unw.ret ?_)
     cases h
     exact ⟨j,(fo rF325 j)⟩
    ·refine Go.skip<|Unw.blk<|us<|g0 j j (q (oMv j j)<|q (oBi j j j j)<|q (oAsI j j)<|nl)<|Unw.nil<|?_
     cases h
     exact ⟨j,(by kernel_rfl)⟩
  ·refine Go.exit<|ux<|Unw.nil<|?_
   cases h
   exact ⟨j,(by kernel_rfl)⟩
 ·rintro ⟨e,st⟩ hp
  rcases o with u | r2
  ·dsimp only at h
   obtain ⟨he,hst⟩:=hp
   obtain rfl:e= .exit 0:=he
   refine Unw.blkx<|us<|gs<|g2 c325 j j hst (q (oAsI j j)<|nl)<|us<|Go.ret (Unw.ret ?_)
   cases h
   exact fr rF325 j
  ·dsimp only at h
   obtain ⟨he,hfin⟩:=hp
   obtain rfl:e= .ret:=he
   cases h
   exact Unw.ret (Fin_ret hfin)
theorem L_spec_l05Near {d_0:S_Drawing} {k_1:Int} {r:(List Int)} (h:spec_l05Near d_0 k_1=some r):FX 287 [.im 2 false [.cp (u_S_Drawing d_0) 0],.im 2 false [I k_1]] (B0 [(false,[.ow 0 1 (List.map eI r)])]):=by
 unfold spec_l05Near at h
 refine gn 69 Try.func287 rfl ?_
 refine gs<|g0 j j (q (oAsN j j eF28)<|nl)<|us<|gs<|g0 j j (q (oBS (es:=List.map eI ([]:List Int)) j sF28 j pt0 (flat0 j fun _=>j))<|q (oAsO j j j j j)<|nl)<|us<|gs<|?_
 obtain ⟨x16,hx16,h⟩:=bs h
 refine g0 j j (q (oMv j j)<|q (oNl j j j)<|q (oFA (r':=.im 2 _) j fF26_3 j j)<|q (oLd (cs:=[.im 2 _]) j tF24 j j)<|q (oMv j j)<|q (oIAI j hx16 sF24 j j)<|q (oFA (r':=.im 2 _) j fF257_1 j j)<|q (oLd (cs:=[.im 2 _]) j tF28 j j)<|q (oAsI j j)<|nl)<|us<|gs<|gs<|g0 j j (q (oAsI j j)<|nl)<|us<|Go.block<|?_
 obtain ⟨o,hl,h⟩:=bs h
 refine gl c287 j _ (fun (s:(Int×(List Int)))=>match s with | (f_7_l4,out_o5_l4)=>mk [(0,D 2 (.cp (u_S_Drawing d_0) 0)),(1,iv k_1),(5,H 5 0),(6,D 2 (W 1 eI x16.Ring)),(7,iv f_7_l4)] [(5,Oc [Z (W 1 eI out_o5_l4)])]) (fun (out_o5_e0_4:(List Int)) (p:Ex×St)=>p.1= .exit 0∧p.2.norm ([5],[5])=mk [(5,H 5 0)] [(5,Oc [Z (W 1 eI out_o5_e0_4)])]) hl (by kernel_rfl) ?_ ?_ ?_
 ·intro o p hp e
  exact nomatch (hp.1.symm.trans e)
 ·rintro ⟨f_7_l4,out_o5_l4⟩ o h
  unfold spec_l05Near_l4 at h
  dsimp only at h
  refine gs<|gs<|g0 j j (q (oMv j j)<|q (oMv j j)<|q (oNl j j j)<|q (oFA (r':=.im 2 _) j fF26_3 j j)<|q (oLd (cs:=[.im 2 _]) j tF24 j j)<|q (oLnI j j uF24 j)<|q (oBi j j j j)<|nl)<|us<|gc h j iDec (fun hc15 h=>?_) fun hc15 h=>?_
  ·refine Go.skip<|us<|gs<|Go.join (fun st=>∃out_o5_r5,spec_l05Near_k5 f_7_l4 out_o5_r5=some o∧st.norm ([0,1,5,6,7],[5])=mk [(0,D 2 (.cp (u_S_Drawing d_0) 0)),(1,iv k_1),(5,H 5 0),(6,D 2 (W 1 eI x16.Ring)),(7,iv f_7_l4)] [(5,Oc [Z (W 1 eI out_o5_r5)])]) ?_ ?_
   ·rintro st ⟨out_o5_r5,h,hst⟩
    unfold spec_l05Near_k5 at h
    refine us<|g2 c287 j j hst (q (oMv j j)<|q (oBi j j j j)<|q (oAsI j j)<|nl)<|Unw.nil<|?_
    cases h
    exact ⟨j,(by kernel_rfl)⟩
   ·intro K22
    refine Go.block<|gs<|g0 j j (q (oAsI j j)<|nl)<|us<|gs<|gs<|g0 j j (q (oAsI j j)<|nl)<|us<|Go.block<|?_
    obtain ⟨o,hl,h⟩:=bs h
    refine gl c287 j _ (fun (s:(Bool×Int))=>match s with | (found_8_l8,j_9_l8)=>mk [(0,D 2 (.cp (u_S_Drawing d_0) 0)),(1,iv k_1),(5,H 5 0),(6,D 2 (W 1 eI x16.Ring)),(7,iv f_7_l4),(8,bv found_8_l8),(9,iv j_9_l8)] [(5,Oc [Z (W 1 eI out_o5_l4)])]) (fun (found_8_e2_8:Bool) (p:Ex×St)=>p.1= .exit 2∧p.2.norm ([0,1,5,6,7,8],[5])=mk [(0,D 2 (.cp (u_S_Drawing d_0) 0)),(1,iv k_1),(5,H 5 0),(6,D 2 (W 1 eI x16.Ring)),(7,iv f_7_l4),(8,bv found_8_e2_8)] [(5,Oc [Z (W 1 eI out_o5_l4)])]) hl (by kernel_rfl) ?_ ?_ ?_
    ·intro o p hp e
     exact nomatch (hp.1.symm.trans e)
    ·rintro ⟨found_8_l8,j_9_l8⟩ o h
     unfold spec_l05Near_l8 at h
     dsimp only at h
     refine gs<|gs<|g0 j j (q (oMv j j)<|q (oMv j j)<|q (oLnI j j uF28 j)<|q (oBi j j j j)<|nl)<|us<|gc h j iDec (fun hc29 h=>?_) fun hc29 h=>?_
     ·refine Go.skip<|us<|gs<|Go.block<|?_
      obtain ⟨found_8_m10,hm31,h⟩:=bs h
      refine gd c287 j j j j (mk [(0,D 2 (.cp (u_S_Drawing d_0) 0)),(1,iv k_1),(5,H 5 0),(6,D 2 (W 1 eI x16.Ring)),(7,iv f_7_l4),(8,bv found_8_m10),(9,iv j_9_l8)] [(5,Oc [Z (W 1 eI out_o5_l4)])]) ?_ ?_
      ·refine t j j (oMv j j)<|t j j (oMv j j)<|?_
       refine ic hm31 (fun hc30 hm31=>?_) fun hc30 hm31=>?_
       ·cases hm31
        exact tF j j j j (iR.2 hc30) j<|tF j j j j (iR.2 hc30) j<|tF j j j j (iR.2 hc30) j<|tF j j j j (iR.2 hc30) j<|tF j j j j (iR.2 hc30) j<|tF j j j j (iR.2 hc30) j<|tF j j j j (iR.2 hc30) j<|tF j j j j (iR.2 hc30) j<|tF j j j j (iR.2 hc30) j<|tF j j j j (iR.2 hc30) j<|tF j j j j (iR.2 hc30) j<|tF j j j j (iR.2 hc30) j<|tF j j j j (iR.2 hc30) j<|tF j j j j (iR.2 hc30) j<|tF j j j j (iR.2 hc30) j<|tF j j j j (iR.2 hc30) j<|tF j j j j (iR.2 hc30) j<|tF j j j j (iR.2 hc30) j<|tF j j j j (iR.2 hc30) j<|tF j j j j (iR.2 hc30) j<|sS (dF j j j (iR.2 hc30) j) trivial (t j j (oPkT j j (iR.2 hc30) j)<|sS (dN z287 j (oAsI j j)) trivial (sD (by kernel_rfl)))
       ·obtain ⟨x41,hx41,hm31⟩:=bs hm31
        obtain ⟨x46,hx46,hm31⟩:=bs hm31
        obtain ⟨x53,hx53,hm31⟩:=bs hm31
        obtain ⟨x54,hx54,hm31⟩:=bs hm31
        obtain ⟨x56,hx56,hm31⟩:=bs hm31
        cases hm31
        exact tT j j j j (byF iR hc30) (oMv j j)<|tT j j j j (byF iR hc30) (oNl j j j)<|tT j j j j (byF iR hc30) (oFA (r':=.im 2 _) j fF26_3 j j)<|tT j j j j (byF iR hc30) (oLd (cs:=[.im 2 _]) j tF24 j j)<|tT j j j j (byF iR hc30) (oMv j j)<|tT j j j j (byF iR hc30) (oIAI j hx41 sF24 j j)<|tT j j j j (byF iR hc30) (oFA (r':=.im 2 _) j fF257_1 j j)<|tT j j j j (byF iR hc30) (oLd (cs:=[.im 2 _]) j tF28 j j)<|tT j j j j (byF iR hc30) (oMv j j)<|tT j j j j (byF iR hc30) (oMv j j)<|tT j j j j (byF iR hc30) (oIAI j hx46 sF28 j j)<|tT j j j j (byF iR hc30) (oLd (cs:=[.im 2 _]) j tF2 j j)<|tT j j j j (byF iR hc30) (oMv j j)<|tT j j j j (byF iR hc30) (oMv j j)<|tT j j j j (byF iR hc30) (oBi j j j j)<|tT j j j j (byF iR hc30) (oMv j j)<|tT j j j j (byF iR hc30) (oLnI j j uF28 j)<|tT j j j j (byF iR hc30) (oRem j hx53 j j)<|tT j j j j (byF iR hc30) (oIAI j hx54 sF28 j j)<|tT j j j j (byF iR hc30) (oLd (cs:=[.im 2 _]) j tF2 j j)<|sS (dT z287 j j j (byF iR hc30) (oCa (xs:=[.v false [.im 2 _],.v false [.im 2 _],.v false [.im 2 _]]) (vs:=[(false,[.im 0 _])]) (v:=.v false [.im 0 _]) (L_spec_l05HasEdge hx56) (.inl j) j kF325_28_2_2 j (ppC j (ppC j (ppC j pp0))) j j pb0 j j j)) trivial (t j j (oPkF j j (byF iR hc30) j)<|sS (dN z287 j (oAsI j j)) trivial (sD (by kernel_rfl)))
      ·refine Unw.blk<|us<|g0 j j (q (oMv j j)<|q (oBi j j j j)<|q (oAsI j j)<|nl)<|Unw.nil<|?_
       cases h
       exact ⟨j,(by kernel_rfl)⟩
     ·refine Go.exit<|ux<|Unw.nil<|?_
      cases h
      exact ⟨j,(by kernel_rfl)⟩
    ·rintro ⟨e,st⟩ hp
     obtain ⟨found_8_e2_8,rfl⟩:∃y,y=o:=⟨o,rfl⟩
     obtain ⟨he,hst⟩:=hp
     obtain rfl:e= .exit 2:=he
     refine Unw.blkx<|us<|gs<|gX c287 j j hst (mk [(0,D 2 (.cp (u_S_Drawing d_0) 0)),(1,iv k_1),(5,H 5 0),(6,D 2 (W 1 eI x16.Ring)),(7,iv f_7_l4),(63,bv ((f_7_l4 != k_1)&&found_8_e2_8))] [(5,Oc [Z (W 1 eI out_o5_l4)])]) ?_ ?_
     ·refine xq (oMv j j)<|xq (oMv j j)<|xq (oBi j j j j)<|xq (oMv j j)<|?_
      by_cases hc27:f_7_l4≠k_1
      ·exact xqT rfl rfl (iNe.2 hc27) (oMv rfl rfl)<|xq (oPkT rfl rfl (iNe.2 hc27) rfl)<|xn (Eq.trans (b:=(fun t_63_m11:Bool=>mk [(0,D 2 (.cp (u_S_Drawing d_0) 0)),(1,iv k_1),(5,H 5 0),(6,D 2 (W 1 eI x16.Ring)),(7,iv f_7_l4),(63,bv t_63_m11)] [(5,Oc [Z (W 1 eI out_o5_l4)])]) found_8_e2_8) (by kernel_rfl) (congrArg (fun t_63_m11:Bool=>mk [(0,D 2 (.cp (u_S_Drawing d_0) 0)),(1,iv k_1),(5,H 5 0),(6,D 2 (W 1 eI x16.Ring)),(7,iv f_7_l4),(63,bv t_63_m11)] [(5,Oc [Z (W 1 eI out_o5_l4)])]) (by first | rfl | (simp [(iNe.2 hc27)];done) | (simp [(iNe.2 hc27)];omega))))
      ·exact xsgF rfl rfl (byF iNe hc27) rfl<|xq (oPkF rfl rfl (byF iNe hc27) rfl)<|xn (Eq.trans (b:=(fun t_63_m11:Bool=>mk [(0,D 2 (.cp (u_S_Drawing d_0) 0)),(1,iv k_1),(5,H 5 0),(6,D 2 (W 1 eI x16.Ring)),(7,iv f_7_l4),(63,bv t_63_m11)] [(5,Oc [Z (W 1 eI out_o5_l4)])]) false) (by kernel_rfl) (congrArg (fun t_63_m11:Bool=>mk [(0,D 2 (.cp (u_S_Drawing d_0) 0)),(1,iv k_1),(5,H 5 0),(6,D 2 (W 1 eI x16.Ring)),(7,iv f_7_l4),(63,bv t_63_m11)] [(5,Oc [Z (W 1 eI out_o5_l4)])]) (by first | rfl | (simp [(byF iNe hc27)];done) | (simp [(byF iNe hc27)];omega))))
     ·refine us<|gc h j (iAnd iNe iR) (fun hc28 h=>?_) fun hc28 h=>?_
      ·obtain ⟨x67,hx67,h⟩:=bs h
       exact g0 j j (q (oMv j j)<|q (oMv j j)<|q (oBS (es:=List.map eI ([f_7_l4]:List Int)) j sF28 j (ptC j (fxI fx0) j pt0) (flat0 j fun _=>j))<|q (oApO (en:=eI) (M:=([f_7_l4]:List Int)) j hx67 j sF28 j j uF28 (.inl ⟨_,j⟩) j j j j (el_own j j) (flat0 j fun _=>j))<|q (oAsO j j j j j)<|nl)<|Unw.blk<|K22 _ ⟨x67,h,(by kernel_rfl)⟩
      ·exact Go.skip<|Unw.blk<|K22 _ ⟨out_o5_l4,h,(by kernel_rfl)⟩
  ·refine Go.exit<|ux<|Unw.nil<|?_
   cases h
   exact ⟨j,(by kernel_rfl)⟩
 ·rintro ⟨e,st⟩ hp
  obtain ⟨out_o5_e0_4,rfl⟩:∃y,y=o:=⟨o,rfl⟩
  obtain ⟨he,hst⟩:=hp
  obtain rfl:e= .exit 0:=he
  refine Unw.blkx<|us<|gs<|g2 c287 j j hst (q (oMv j j)<|q (oAsO j j j j j)<|nl)<|us<|Go.ret (Unw.ret ?_)
  cases h
  exact fr rF287 j
theorem L_spec_l15Pairs {d_0:S_Drawing} {r:(List (List Int))} (h:spec_l15Pairs d_0=some r):FX 224 [.im 2 false [.cp (u_S_Drawing d_0) 0]] (B0 [(false,[.ow 0 1 (List.map (eL 1 eI) r)])]):=by
 unfold spec_l15Pairs at h
 refine gn 42 Try.func224 rfl ?_
 refine gs<|g0 j j (q (oAsN j j eF41)<|nl)<|us<|gs<|g0 j j (q (oBS (es:=List.map (eL 1 eI) ([]:List (List Int))) j sF41 j pt0 (flat1 j))<|q (oAsO j j j j j)<|nl)<|us<|gs<|gs<|g0 j j (q (oAsI j j)<|nl)<|us<|Go.block<|?_
 obtain ⟨o,hl,h⟩:=bs h
 refine gl c224 j _ (fun (s:(Int×(List (List Int))))=>match s with | (i_4_l3,out_o3_l3)=>mk [(0,D 2 (.cp (u_S_Drawing d_0) 0)),(3,H 3 0),(4,iv i_4_l3)] [(3,Oc [Z (W 1 (eL 1 eI) out_o3_l3)])]) (fun (out_o3_e0_3:(List (List Int))) (p:Ex×St)=>p.1= .exit 0∧p.2.norm ([3],[3])=mk [(3,H 3 0)] [(3,Oc [Z (W 1 (eL 1 eI) out_o3_e0_3)])]) hl (by kernel_rfl) ?_ ?_ ?_
 ·intro o p hp e
  exact nomatch (hp.1.symm.trans e)
 ·rintro ⟨i_4_l3,out_o3_l3⟩ o h
  unfold spec_l15Pairs_l3 at h
  dsimp only at h
  refine gs<|gs<|g0 j j (q (oMv j j)<|q (oMv j j)<|q (oNl j j j)<|q (oFA (r':=.im 2 _) j fF26_3 j j)<|q (oLd (cs:=[.im 2 _]) j tF24 j j)<|q (oLnI j j uF24 j)<|q (oBi j j j j)<|nl)<|us<|gc h j iDec (fun hc11 h=>?_) fun hc11 h=>?_
  ·refine Go.skip<|us<|gs<|Go.block<|gs<|?_
   obtain ⟨x19,hx19,h⟩:=bs h
   refine g0 j j (q (oMv j j)<|q (oMv j j)<|q (oCr (xs:=[.v false [.im 2 _],.v false [.im 0 _]]) (vs:=[(false,[.own 19 0 0])]) (v:=.v false [.own 19 0 0]) (c:=⟨.sh,0,_⟩) (cs:=[]) (L_spec_l05Near hx19) (.inl j) j kF287_141_2 j (ppC j (ppC j pp0)) j j pb0 j j j)<|q (oAsO j j j j j)<|nl)<|us<|gs<|g0 j j (q (oAsI j j)<|nl)<|us<|Go.block<|?_
   obtain ⟨o,hl,h⟩:=bs h
   refine gl c224 j _ (fun (s:(Int×(List (List Int))))=>match s with | (k_6_l7,out_o3_l7)=>mk [(0,D 2 (.cp (u_S_Drawing d_0) 0)),(3,H 3 0),(4,iv i_4_l3),(5,H 5 0),(6,iv k_6_l7)] [(3,Oc [Z (W 1 (eL 1 eI) out_o3_l7)]),(5,Oc [Z (W 1 eI x19)])]) (fun (out_o3_e2_7:(List (List Int))) (p:Ex×St)=>p.1= .exit 2∧p.2.norm ([0,3,4],[3])=mk [(0,D 2 (.cp (u_S_Drawing d_0) 0)),(3,H 3 0),(4,iv i_4_l3)] [(3,Oc [Z (W 1 (eL 1 eI) out_o3_e2_7)])]) hl (by kernel_rfl) ?_ ?_ ?_
   ·intro o p hp e
    exact nomatch (hp.1.symm.trans e)
   ·rintro ⟨k_6_l7,out_o3_l7⟩ o h
    unfold spec_l15Pairs_l7 at h
    dsimp only at h
    refine gs<|gs<|g0 j j (q (oMv j j)<|q (oMv j j)<|q (oLnO j j uF28 j j j (fun e=>nomatch e))<|q (oBi j j j j)<|nl)<|us<|gc h j iDec (fun hc16 h=>?_) fun hc16 h=>?_
    ·refine Go.skip<|us<|gs<|Go.join (fun st=>∃out_o3_r8,spec_l15Pairs_k8 k_6_l7 out_o3_r8=some o∧st.norm ([0,3,4,5,6],[3,5])=mk [(0,D 2 (.cp (u_S_Drawing d_0) 0)),(3,H 3 0),(4,iv i_4_l3),(5,H 5 0),(6,iv k_6_l7)] [(3,Oc [Z (W 1 (eL 1 eI) out_o3_r8)]),(5,Oc [Z (W 1 eI x19)])]) ?_ ?_
     ·rintro st ⟨out_o3_r8,h,hst⟩
      unfold spec_l15Pairs_k8 at h
      refine us<|g2 c224 j j hst (q (oMv j j)<|q (oBi j j j j)<|q (oAsI j j)<|nl)<|Unw.nil<|?_
      cases h
      exact ⟨j,(by kernel_rfl)⟩
     ·intro K18
      refine Go.block<|gs<|?_
      obtain ⟨x28,hx28,h⟩:=bs h
      refine g0 j j (q (oMv j j)<|q (oMv j j)<|q (oIAO j hx28 sF28 j j j j)<|q (oLdE (cs:=[.im 0 _]) j tF2 j j j j (rd_get hx28) j j)<|q (oMv j j)<|q (oBi j j j j)<|nl)<|us<|gc h j iDec (fun hc19 h=>?_) fun hc19 h=>?_
      ·obtain ⟨x36,hx36,h⟩:=bs h
       obtain ⟨x40,hx40,h⟩:=bs h
       exact g0 j j (q (oMv j j)<|q (oMv j j)<|q (oMv j j)<|q (oMv j j)<|q (oIAO j hx36 sF28 j j j j)<|q (oLdE (cs:=[.im 0 _]) j tF2 j j j j (rd_get hx36) j j)<|q (oBS (es:=List.map eI ([i_4_l3,x36]:List Int)) j sF28 j (ptC j (fxI fx0) j (ptC j (fxI fx0) j pt0)) (flat0 j fun _=>j))<|q (oBS (es:=List.map (eL 1 eI) ([([i_4_l3,x36]:List Int)]:List (List Int))) j sF41 j (ptC j (fxO j j fx0) j pt0) (flat1 j))<|q (oApO (en:=(eL 1 eI)) (M:=([([i_4_l3,x36]:List Int)]:List (List Int))) j hx40 j sF41 j j uF41 (.inl ⟨_,j⟩) j j j j (el_own j j) (flat1 j))<|q (oAsO j j j j j)<|nl)<|Unw.blk<|K18 _ ⟨x40,h,(by kernel_rfl)⟩
      ·exact Go.skip<|Unw.blk<|K18 _ ⟨out_o3_l7,h,(by kernel_rfl)⟩
    ·refine Go.exit<|ux<|Unw.nil<|?_
     cases h
     exact ⟨j,(by kernel_rfl)⟩
   ·rintro ⟨e,st⟩ hp
    obtain ⟨out_o3_e2_7,rfl⟩:∃y,y=o:=⟨o,rfl⟩
    obtain ⟨he,hst⟩:=hp
    obtain rfl:e= .exit 2:=he
    refine Unw.blkx<|Unw.blk<|us<|g2 c224 j j hst (q (oMv j j)<|q (oBi j j j j)<|q (oAsI j j)<|nl)<|Unw.nil<|?_
    cases h
    exact ⟨j,(by kernel_rfl)⟩
  ·refine Go.exit<|ux<|Unw.nil<|?_
   cases h
   exact ⟨j,(by kernel_rfl)⟩
 ·rintro ⟨e,st⟩ hp
  obtain ⟨out_o3_e0_3,rfl⟩:∃y,y=o:=⟨o,rfl⟩
  obtain ⟨he,hst⟩:=hp
  obtain rfl:e= .exit 0:=he
  refine Unw.blkx<|us<|gs<|g2 c224 j j hst (q (oMv j j)<|q (oAsO j j j j j)<|nl)<|us<|Go.ret (Unw.ret ?_)
  cases h
  exact fr rF224 j
theorem L_spec_l00Own {list_0:(List Int)} {r:(List Int)} (h:spec_l00Own list_0=some r):FX 117 [.im 2 false [W 1 eI list_0]] (B0 [(false,[.ow 0 1 (List.map eI r)])]):=by
 unfold spec_l00Own at h
 refine gn 6 Try.func117 rfl ?_
 refine gs<|g0 j j (q (oAsN j j eF28)<|nl)<|us<|gs<|?_
 obtain ⟨x5,hx5,h⟩:=bs h
 refine g0 j j (q (oBS (es:=List.map eI ([]:List Int)) j sF28 j pt0 (flat0 j fun _=>j))<|q (oMv j j)<|q (oApO (en:=eI) (M:=list_0) j hx5 j sF28 j j uF28 (.inl ⟨_,j⟩) j j j j el_im (flat0 j fun _=>j))<|q (oAsO j j j j j)<|nl)<|us<|Go.ret (Unw.ret ?_)
 cases h
 exact fr rF117 j
theorem L_spec_l07Angle {a_0:Int} {b_1:Int} {r:Int} (h:spec_l07Angle a_0 b_1=some r):FX 282 [.im 2 false [I a_0],.im 2 false [I b_1]] (B0 [(false,[.im 0 (I r)])]):=by
 unfold spec_l07Angle at h
 refine gn 17 Try.func282 rfl ?_
 refine gs<|g0 j j (q (oAsI j j)<|nl)<|us<|gs<|?_
 obtain ⟨x12,hx12,h⟩:=bs h
 refine g0 j j (q (oMv j j)<|q (oMv j j)<|q (oBi j j j j)<|q (oMv j j)<|q (oMv j j)<|q (oBi j j j j)<|q (oCa (xs:=[.v false [.im 0 _],.v false [.im 0 _]]) (vs:=[(false,[.im 0 _])]) (v:=.v false [.im 0 _]) (L_spec_l00Max hx12) (.inl j) j kF218_2_2 j (ppC j (ppC j pp0)) j j pb0 j j j)<|q (oAsI j j)<|nl)<|us<|gs<|?_
 obtain ⟨x16,hx16,h⟩:=bs h
 refine g0 j j (q (oMv j j)<|q (oMv j j)<|q (oBi j j j j)<|q (oCa (xs:=[.v false [.im 0 _],.v false [.im 0 _]]) (vs:=[(false,[.im 0 _])]) (v:=.v false [.im 0 _]) (L_spec_l00Min hx16) (.inl j) j kF222_2_2 j (ppC j (ppC j pp0)) j j pb0 j j j)<|q (oAsI j j)<|nl)<|us<|Go.ret (Unw.ret ?_)
 cases h
 exact fr rF282 j
theorem L_spec_l07Contrast {a_0:S_Veneer} {b_1:S_Veneer} {r:Int} (h:spec_l07Contrast a_0 b_1=some r):FX 360 [.im 2 false [.cp (u_S_Veneer a_0) 0],.im 2 false [.cp (u_S_Veneer b_1) 0]] (B0 [(false,[.im 0 (I r)])]):=by
 unfold spec_l07Contrast at h
 refine gn 35 Try.func360 rfl ?_
 refine gs<|g0 j j (q (oAsI j j)<|nl)<|us<|gs<|?_
 obtain ⟨x23,hx23,h⟩:=bs h
 obtain ⟨x32,hx32,h⟩:=bs h
 obtain ⟨x33,hx33,h⟩:=bs h
 refine gd c360 j j j j (mk [(4,iv (w64 (x23+x33)))] []) (t j j (oMv j j)<|t j j (oNl j j j)<|t j j (oFA (r':=.im 2 _) j fF104_1 j j)<|t j j (oLd (cs:=[.im 2 _]) j tF2 j j)<|t j j (oMv j j)<|t j j (oNl j j j)<|t j j (oFA (r':=.im 2 _) j fF104_1 j j)<|t j j (oLd (cs:=[.im 2 _]) j tF2 j j)<|t j j (oBi j j j j)<|t j j (oMv j j)<|t j j (oNl j j j)<|t j j (oFA (r':=.im 2 _) j fF104_1 j j)<|t j j (oLd (cs:=[.im 2 _]) j tF2 j j)<|t j j (oMv j j)<|t j j (oNl j j j)<|t j j (oFA (r':=.im 2 _) j fF104_1 j j)<|t j j (oLd (cs:=[.im 2 _]) j tF2 j j)<|t j j (oBi j j j j)<|t j j (oMv j j)<|t j j (oNl j j j)<|t j j (oFA (r':=.im 2 _) j fF104_2 j j)<|t j j (oLd (cs:=[.im 2 _]) j tF2 j j)<|t j j (oMv j j)<|t j j (oNl j j j)<|t j j (oFA (r':=.im 2 _) j fF104_2 j j)<|t j j (oLd (cs:=[.im 2 _]) j tF2 j j)<|sS (dN z360 j (oCa (xs:=[.v false [.im 0 _],.v false [.im 0 _]]) (vs:=[(false,[.im 0 _])]) (v:=.v false [.im 0 _]) (L_spec_l00Max hx23) (.inl j) j kF218_2_2 j (ppC j (ppC j pp0)) j j pb0 j j j)) trivial (sS (dN z360 j (oCa (xs:=[.v false [.im 2 _],.v false [.im 2 _]]) (vs:=[(false,[.im 0 _])]) (v:=.v false [.im 0 _]) (L_spec_l07Angle hx32) (.inl j) j kF282_2_2 j (ppC j (ppC j pp0)) j j pb0 j j j)) trivial (t j j (oQuo j hx33 j j)<|t j j (oBi j j j j)<|sS (dN z360 j (oAsI j j)) trivial (sD (by kernel_rfl)))))<|us<|Go.ret (Unw.ret ?_)
 cases h
 exact fr rF360 j
theorem L_spec_l15Contrast {sheets_0:(List S_Veneer)} {a_1:Int} {b_2:Int} {r:Int} (h:spec_l15Contrast sheets_0 a_1 b_2=some r):FX 340 [.im 2 false [W 3 e_S_Veneer sheets_0],.im 2 false [I a_1],.im 2 false [I b_2]] (B0 [(false,[.im 0 (I r)])]):=by
 unfold spec_l15Contrast at h
 refine gn 42 Try.func340 rfl ?_
 refine gs<|g0 j j (q (oAsI j j)<|nl)<|us<|gs<|g0 j j (q (oMv j j)<|q (oLnI j j uF84 j)<|q (oAsI j j)<|nl)<|us<|gs<|g0 j j (q (oAsI j j)<|nl)<|us<|gs<|gs<|g0 j j (q (oAsI j j)<|nl)<|us<|Go.block<|?_
 obtain ⟨o,hl,h⟩:=bs h
 refine gl c340 j _ (fun (s:(Int×Int))=>match s with | (least_8_l4,i_9_l4)=>mk [(0,D 2 (W 3 e_S_Veneer sheets_0)),(1,iv a_1),(2,iv b_2),(7,iv (sheets_0.length:Int)),(8,iv least_8_l4),(9,iv i_9_l4)] []) (fun (least_8_e0_4:Int) (p:Ex×St)=>p.1= .exit 0∧p.2.norm ([8],[])=mk [(8,iv least_8_e0_4)] []) hl (by kernel_rfl) ?_ ?_ ?_
 ·intro o p hp e
  exact nomatch (hp.1.symm.trans e)
 ·rintro ⟨least_8_l4,i_9_l4⟩ o h
  unfold spec_l15Contrast_l4 at h
  dsimp only at h
  refine gs<|gs<|g0 j j (q (oMv j j)<|q (oMv j j)<|q (oBi j j j j)<|nl)<|us<|gc h j iDec (fun hc7 h=>?_) fun hc7 h=>?_
  ·refine Go.skip<|us<|gs<|Go.join (fun st=>∃least_8_r5,spec_l15Contrast_k5 i_9_l4 least_8_r5=some o∧st.norm ([0,1,2,7,8,9],[])=mk [(0,D 2 (W 3 e_S_Veneer sheets_0)),(1,iv a_1),(2,iv b_2),(7,iv (sheets_0.length:Int)),(8,iv least_8_r5),(9,iv i_9_l4)] []) ?_ ?_
   ·rintro st ⟨least_8_r5,h,hst⟩
    unfold spec_l15Contrast_k5 at h
    refine us<|g2 c340 j j hst (q (oMv j j)<|q (oBi j j j j)<|q (oAsI j j)<|nl)<|Unw.nil<|?_
    cases h
    exact ⟨j,(by kernel_rfl)⟩
   ·intro K10
    refine Go.block<|gs<|?_
    obtain ⟨x23,hx23,h⟩:=bs h
    obtain ⟨x24,hx24,h⟩:=bs h
    obtain ⟨x30,hx30,h⟩:=bs h
    obtain ⟨x31,hx31,h⟩:=bs h
    obtain ⟨x32,hx32,h⟩:=bs h
    refine gd c340 j j j j (mk [(0,D 2 (W 3 e_S_Veneer sheets_0)),(1,iv a_1),(2,iv b_2),(7,iv (sheets_0.length:Int)),(8,iv least_8_l4),(9,iv i_9_l4),(10,iv x32)] []) (t j j (oMv j j)<|t j j (oMv j j)<|t j j (oMv j j)<|t j j (oBi j j j j)<|t j j (oMv j j)<|t j j (oRem j hx23 j j)<|t j j (oIAI j hx24 sF84 j j)<|t j j (oMv j j)<|t j j (oMv j j)<|t j j (oMv j j)<|t j j (oBi j j j j)<|t j j (oMv j j)<|t j j (oRem j hx30 j j)<|t j j (oIAI j hx31 sF84 j j)<|sS (dN z340 j (oCa (xs:=[.v false [.im 2 _],.v false [.im 2 _]]) (vs:=[(false,[.im 0 _])]) (v:=.v false [.im 0 _]) (L_spec_l07Contrast hx32) (.inl j) j kF360_360_360 j (ppC j (ppC j pp0)) j j pb0 j j j)) trivial (sS (dN z340 j (oAsI j j)) trivial (sD (by kernel_rfl))))<|us<|gs<|gX c340 j j j (mk [(0,D 2 (W 3 e_S_Veneer sheets_0)),(1,iv a_1),(2,iv b_2),(7,iv (sheets_0.length:Int)),(8,iv least_8_l4),(9,iv i_9_l4),(10,iv x32),(39,bv ((i_9_l4==0)||(decide (x32<least_8_l4))))] []) ?_ ?_
    ·refine xq (oMv j j)<|xq (oBi j j j j)<|xq (oMv j j)<|?_
     by_cases hc11:i_9_l4=0
     ·exact xsgF rfl rfl (iEq.2 hc11) rfl<|xsgF rfl rfl (iEq.2 hc11) rfl<|xsgF rfl rfl (iEq.2 hc11) rfl<|xq (oPkT rfl rfl (iEq.2 hc11) rfl)<|xn (Eq.trans (b:=(fun t_39_m7:Bool=>mk [(0,D 2 (W 3 e_S_Veneer sheets_0)),(1,iv a_1),(2,iv b_2),(7,iv (sheets_0.length:Int)),(8,iv least_8_l4),(9,iv i_9_l4),(10,iv x32),(39,bv t_39_m7)] []) true) (by kernel_rfl) (congrArg (fun t_39_m7:Bool=>mk [(0,D 2 (W 3 e_S_Veneer sheets_0)),(1,iv a_1),(2,iv b_2),(7,iv (sheets_0.length:Int)),(8,iv least_8_l4),(9,iv i_9_l4),(10,iv x32),(39,bv t_39_m7)] []) (by first | rfl | (simp [(iEq.2 hc11)];done) | (simp [(iEq.2 hc11)];omega))))
     ·exact xqT rfl rfl (byF iEq hc11) (oMv rfl rfl)<|xqT rfl rfl (byF iEq hc11) (oMv rfl rfl)<|xqT rfl rfl (byF iEq hc11) (oBi rfl rfl rfl rfl)<|xq (oPkF rfl rfl (byF iEq hc11) rfl)<|xn (Eq.trans (b:=(fun t_39_m7:Bool=>mk [(0,D 2 (W 3 e_S_Veneer sheets_0)),(1,iv a_1),(2,iv b_2),(7,iv (sheets_0.length:Int)),(8,iv least_8_l4),(9,iv i_9_l4),(10,iv x32),(39,bv t_39_m7)] []) (decide (x32<least_8_l4))) (by kernel_rfl) (congrArg (fun t_39_m7:Bool=>mk [(0,D 2 (W 3 e_S_Veneer sheets_0)),(1,iv a_1),(2,iv b_2),(7,iv (sheets_0.length:Int)),(8,iv least_8_l4),(9,iv i_9_l4),(10,iv x32),(39,bv t_39_m7)] []) (by first | rfl | (simp [(byF iEq hc11)];done) | (simp [(byF iEq hc11)];omega))))
    ·refine us<|gc h j (iOr iEq iDec) (fun hc12 h=>?_) fun hc12 h=>?_
     ·exact g0 j j (q (oMv j j)<|q (oAsI j j)<|nl)<|Unw.blk<|K10 _ ⟨x32,h,(by kernel_rfl)⟩
     ·exact Go.skip<|Unw.blk<|K10 _ ⟨least_8_l4,h,(by kernel_rfl)⟩
  ·refine Go.exit<|ux<|Unw.nil<|?_
   cases h
   exact ⟨j,(by kernel_rfl)⟩
 ·rintro ⟨e,st⟩ hp
  obtain ⟨least_8_e0_4,rfl⟩:∃y,y=o:=⟨o,rfl⟩
  obtain ⟨he,hst⟩:=hp
  obtain rfl:e= .exit 0:=he
  refine Unw.blkx<|us<|gs<|g2 c340 j j hst (q (oMv j j)<|q (oAsI j j)<|nl)<|us<|Go.ret (Unw.ret ?_)
  cases h
  exact fr rF340 j
theorem L_spec_l15Search_fits {x_0:(Option S_l15Search)} {r:Bool} (h:spec_l15Search_fits x_0=some r):FX 292 [.im 2 false [eO e_S_l15Search x_0]] (B0 [(false,[.im 0 (V r)])]):=by
 unfold spec_l15Search_fits at h
 refine gn 65 Try.func292 rfl ?_
 refine gs<|g0 j j (q (oAsI j j)<|nl)<|us<|gs<|?_
 cases x_0 with
 | none=>
  cases h
 | some ohc1=>
  refine g0 j j (q (oMv j j)<|q (oNl j j j)<|q (oFA (r':=.im 2 _) j fF215_4 j j)<|q (oLd (cs:=[.im 2 _]) j tF28 j j)<|q (oLnI j j uF28 j)<|q (oBi j j j j)<|q (oAsI j j)<|nl)<|us<|gs<|gs<|g0 j j (q (oAsI j j)<|nl)<|us<|Go.block<|?_
  obtain ⟨o,hl,h⟩:=bs h
  refine gl c292 j _ (fun (i_4_l3:Int)=>mk [(0,.v false [.im (tagOf 2 (eO e_S_l15Search (some ohc1))) (eO e_S_l15Search (some ohc1))]),(3,iv (w64 ((ohc1.shifts.length:Int) - 1))),(4,iv i_4_l3)] []) (fun (o:(Unit ⊕ Bool)) (p:Ex×St)=>match o with | (.inl _)=>p.1= .exit 0∧p.2.norm ([],[])=mk [] [] | (.inr r2)=>p.1= .ret∧fin Try.prog cfg 292 Try.f292 [.im 2 false [eO e_S_l15Search (some ohc1)]] p.2=some (B0 [(false,[.im 0 (V r2)])])) hl (by kernel_rfl) ?_ ?_ ?_
  ·intro o p hp e
   rcases o with u | r2<;>exact nomatch (hp.1.symm.trans e)
  ·rintro i_4_l3 o h
   unfold spec_l15Search_fits_l3 at h
   refine gs<|gs<|g0 j j (q (oMv j j)<|q (oMv j j)<|q (oNl j j j)<|q (oFA (r':=.im _ _) j fF215_0 j j)<|q (oLd (cs:=[.im _ _]) j tF41 j j)<|q (oLnI j j uF41 j)<|q (oBi j j j j)<|nl)<|us<|gc h j iDec (fun hc10 h=>?_) fun hc10 h=>?_
   ·refine Go.skip<|us<|gs<|Go.block<|gs<|?_
    obtain ⟨x25,hx25,h⟩:=bs h
    obtain ⟨x27,hx27,h⟩:=bs h
    obtain ⟨t_64_m5,hm13,h⟩:=bs h
    refine gd c292 j j j j (mk [(0,.v false [.im (tagOf 2 (eO e_S_l15Search (some ohc1))) (eO e_S_l15Search (some ohc1))]),(3,iv (w64 ((ohc1.shifts.length:Int) - 1))),(4,iv i_4_l3),(64,bv t_64_m5)] []) ?_ ?_
    ·refine t j j (oMv j j)<|t j j (oNl j j j)<|t j j (oFA (r':=.im _ _) j fF215_0 j j)<|t j j (oLd (cs:=[.im _ _]) j tF41 j j)<|t j j (oMv j j)<|t j j (oIAI j hx25 sF41 j j)<|t j j (oLd (cs:=[.im _ _]) j tF28 j j)<|t j j (oIAI j hx27 sF28 j j)<|t j j (oLd (cs:=[.im _ _]) j tF2 j j)<|t j j (oMv j j)<|t j j (oBi j j j j)<|t j j (oMv j j)<|?_
     refine ic hm13 (fun hc11 hm13=>?_) fun hc11 hm13=>?_
     ·obtain ⟨x45,hx45,hm13⟩:=bs hm13
      obtain ⟨x47,hx47,hm13⟩:=bs hm13
      obtain ⟨x49,hx49,hm13⟩:=bs hm13
      obtain ⟨x56,hx56,hm13⟩:=bs hm13
      obtain ⟨x58,hx58,hm13⟩:=bs hm13
      cases hm13
      exact tT rfl rfl rfl rfl (iEq.2 hc11) (oMv rfl rfl)<|tT rfl rfl rfl rfl (iEq.2 hc11) (oNl rfl rfl rfl)<|tT rfl rfl rfl rfl (iEq.2 hc11) (oFA (r':=.im _ _) rfl fF215_2 rfl rfl)<|tT rfl rfl rfl rfl (iEq.2 hc11) (oLd (cs:=[.im _ _]) rfl tF84 rfl rfl)<|tT rfl rfl rfl rfl (iEq.2 hc11) (oMv rfl rfl)<|tT rfl rfl rfl rfl (iEq.2 hc11) (oNl rfl rfl rfl)<|tT rfl rfl rfl rfl (iEq.2 hc11) (oFA (r':=.im _ _) rfl fF215_4 rfl rfl)<|tT rfl rfl rfl rfl (iEq.2 hc11) (oLd (cs:=[.im _ _]) rfl tF28 rfl rfl)<|tT rfl rfl rfl rfl (iEq.2 hc11) (oMv rfl rfl)<|tT rfl rfl rfl rfl (iEq.2 hc11) (oNl rfl rfl rfl)<|tT rfl rfl rfl rfl (iEq.2 hc11) (oFA (r':=.im _ _) rfl fF215_0 rfl rfl)<|tT rfl rfl rfl rfl (iEq.2 hc11) (oLd (cs:=[.im _ _]) rfl tF41 rfl rfl)<|tT rfl rfl rfl rfl (iEq.2 hc11) (oMv rfl rfl)<|tT rfl rfl rfl rfl (iEq.2 hc11) (oIAI rfl hx45 sF41 rfl rfl)<|tT rfl rfl rfl rfl (iEq.2 hc11) (oLd (cs:=[.im _ _]) rfl tF28 rfl rfl)<|tT rfl rfl rfl rfl (iEq.2 hc11) (oIAI rfl hx47 sF28 rfl rfl)<|tT rfl rfl rfl rfl (iEq.2 hc11) (oLd (cs:=[.im _ _]) rfl tF2 rfl rfl)<|tT rfl rfl rfl rfl (iEq.2 hc11) (oIAI rfl hx49 sF28 rfl rfl)<|tT rfl rfl rfl rfl (iEq.2 hc11) (oLd (cs:=[.im _ _]) rfl tF2 rfl rfl)<|tT rfl rfl rfl rfl (iEq.2 hc11) (oMv rfl rfl)<|tT rfl rfl rfl rfl (iEq.2 hc11) (oNl rfl rfl rfl)<|tT rfl rfl rfl rfl (iEq.2 hc11) (oFA (r':=.im _ _) rfl fF215_4 rfl rfl)<|tT rfl rfl rfl rfl (iEq.2 hc11) (oLd (cs:=[.im _ _]) rfl tF28 rfl rfl)<|tT rfl rfl rfl rfl (iEq.2 hc11) (oMv rfl rfl)<|tT rfl rfl rfl rfl (iEq.2 hc11) (oIAI rfl hx56 sF28 rfl rfl)<|tT rfl rfl rfl rfl (iEq.2 hc11) (oLd (cs:=[.im _ _]) rfl tF2 rfl rfl)<|tT rfl rfl rfl rfl (iEq.2 hc11) (oMv rfl rfl)<|tT rfl rfl rfl rfl (iEq.2 hc11) (oNl rfl rfl rfl)<|tT rfl rfl rfl rfl (iEq.2 hc11) (oFA (r':=.im _ _) rfl fF215_3 rfl rfl)<|tT rfl rfl rfl rfl (iEq.2 hc11) (oLd (cs:=[.im _ _]) rfl tF2 rfl rfl)<|sS (dT z292 rfl rfl rfl (iEq.2 hc11) (oCa (xs:=[.v false [.im _ _],.v false [.im _ _],.v false [.im _ _]]) (vs:=[(false,[.im 0 _])]) (v:=.v false [.im 0 _]) (L_spec_l15Contrast hx58) (.inl rfl) rfl kF340_84_2_2 rfl (ppC rfl (ppC rfl (ppC rfl pp0))) rfl rfl pb0 rfl rfl rfl)) trivial (tT rfl rfl rfl rfl (iEq.2 hc11) (oBi rfl rfl rfl rfl)<|t rfl rfl (oPkT rfl rfl (iEq.2 hc11) rfl)<|sD (by first | (cases (some ohc1)<;>kernel_rfl) | kernel_rfl))
     ·cases hm13
      exact tF rfl rfl rfl rfl (byF iEq hc11) rfl<|tF rfl rfl rfl rfl (byF iEq hc11) rfl<|tF rfl rfl rfl rfl (byF iEq hc11) rfl<|tF rfl rfl rfl rfl (byF iEq hc11) rfl<|tF rfl rfl rfl rfl (byF iEq hc11) rfl<|tF rfl rfl rfl rfl (byF iEq hc11) rfl<|tF rfl rfl rfl rfl (byF iEq hc11) rfl<|tF rfl rfl rfl rfl (byF iEq hc11) rfl<|tF rfl rfl rfl rfl (byF iEq hc11) rfl<|tF rfl rfl rfl rfl (byF iEq hc11) rfl<|tF rfl rfl rfl rfl (byF iEq hc11) rfl<|tF rfl rfl rfl rfl (byF iEq hc11) rfl<|tF rfl rfl rfl rfl (byF iEq hc11) rfl<|tF rfl rfl rfl rfl (byF iEq hc11) rfl<|tF rfl rfl rfl rfl (byF iEq hc11) rfl<|tF rfl rfl rfl rfl (byF iEq hc11) rfl<|tF rfl rfl rfl rfl (byF iEq hc11) rfl<|tF rfl rfl rfl rfl (byF iEq hc11) rfl<|tF rfl rfl rfl rfl (byF iEq hc11) rfl<|tF rfl rfl rfl rfl (byF iEq hc11) rfl<|tF rfl rfl rfl rfl (byF iEq hc11) rfl<|tF rfl rfl rfl rfl (byF iEq hc11) rfl<|tF rfl rfl rfl rfl (byF iEq hc11) rfl<|tF rfl rfl rfl rfl (byF iEq hc11) rfl<|tF rfl rfl rfl rfl (byF iEq hc11) rfl<|tF rfl rfl rfl rfl (byF iEq hc11) rfl<|tF rfl rfl rfl rfl (byF iEq hc11) rfl<|tF rfl rfl rfl rfl (byF iEq hc11) rfl<|tF rfl rfl rfl rfl (byF iEq hc11) rfl<|tF rfl rfl rfl rfl (byF iEq hc11) rfl<|sS (dF rfl rfl rfl (byF iEq hc11) rfl) trivial (tF rfl rfl rfl rfl (byF iEq hc11) rfl<|t rfl rfl (oPkF rfl rfl (byF iEq hc11) rfl)<|sD (by first | (cases (some ohc1)<;>kernel_rfl) | kernel_rfl))
    ·refine us<|gc h j iR (fun hc12 h=>?_) fun hc12 h=>?_
     ·refine gs<|g0 j j (q (oAsI j j)<|nl)<|us<|Go.ret (Unw.ret ?_)
      cases h
      exact ⟨j,(fo rF292 j)⟩
     ·refine Go.skip<|Unw.blk<|us<|g0 j j (q (oMv j j)<|q (oBi j j j j)<|q (oAsI j j)<|nl)<|Unw.nil<|?_
      cases h
      exact ⟨rfl,(by first | (cases (some ohc1)<;>kernel_rfl) | kernel_rfl)⟩
   ·refine Go.exit<|ux<|Unw.nil<|?_
    cases h
    exact ⟨rfl,(by first | (cases (some ohc1)<;>kernel_rfl) | kernel_rfl)⟩
  ·rintro ⟨e,st⟩ hp
   rcases o with u | r2
   ·dsimp only at h
    obtain ⟨he,hst⟩:=hp
    obtain rfl:e= .exit 0:=he
    refine Unw.blkx<|us<|gs<|g2 c292 j j hst (q (oAsI j j)<|nl)<|us<|Go.ret (Unw.ret ?_)
    cases h
    exact fr rF292 j
   ·dsimp only at h
    obtain ⟨he,hfin⟩:=hp
    obtain rfl:e= .ret:=he
    cases h
    exact Unw.ret (Fin_ret hfin)
end
end Go.Proofs.Ytambonpepalofaa
