/- The machine answers, at each function of the program that is reached, what its plain function answers. Conditions: none. -/
import Derived.Test.YtfjmlccolihpmaaProg
import Derived.KernelRfl
import Derived.Test.YtfjmlccolihpmaaSimRs
import Derived.Test.YtfjmlccolihpmaaTfhT
namespace Go.Proofs.Ytfjmlccolihpmaa
open Go Go.Sim Go.Pw Go.Proofs
set_option linter.unusedVariables false
set_option linter.unusedSimpArgs false
set_option maxRecDepth 100000
set_option maxHeartbeats 4000000
noncomputable section
noncomputable abbrev u_S_Point (x:S_Point):List AV:=[I x.X,I x.Y]
noncomputable def e_S_Point (x:S_Point):AV:= .agg (u_S_Point x)
noncomputable abbrev u_S_Face (x:S_Face):List AV:=[Y x.Name,W 1 eI x.Ring]
noncomputable def e_S_Face (x:S_Face):AV:= .agg (u_S_Face x)
noncomputable abbrev u_S_Drawing (x:S_Drawing):List AV:=[I x.Width,I x.Height,W 2 e_S_Point x.Points,W 2 e_S_Face x.Faces]
noncomputable def e_S_Drawing (x:S_Drawing):AV:= .agg (u_S_Drawing x)
noncomputable abbrev u_S_Veneer (x:S_Veneer):List AV:=[Y x.Species,I x.Shade,I x.Grain]
noncomputable def e_S_Veneer (x:S_Veneer):AV:= .agg (u_S_Veneer x)
noncomputable abbrev u_S_l15Search (x:S_l15Search):List AV:=[W 1 (eL 1 eI) x.pairs,I x.faces,W 3 e_S_Veneer x.sheets,I x.least,W 1 eI x.shifts,V x.first,W 1 eI x.best,I x.count,I x.nodes,I x.budget]
noncomputable def e_S_l15Search (x:S_l15Search):AV:= .agg (u_S_l15Search x)
noncomputable abbrev u_S_shiftSearch (x:S_shiftSearch):List AV:=[W 1 (eL 1 eI) x.near,W 1 eI x.contrasts,I x.least,I x.left,I x.found,W 1 eI x.first,V x.one]
noncomputable def e_S_shiftSearch (x:S_shiftSearch):AV:= .agg (u_S_shiftSearch x)
noncomputable abbrev u_Ar2_Int (x:Ar2_Int):List AV:=[I x.e0,I x.e1]
noncomputable def e_Ar2_Int (x:Ar2_Int):AV:= .agg (u_Ar2_Int x)
noncomputable def fc8:FCfg:={par:=[.cst false,.cst false,.cst false,.cst false],inn:=[(10,some ([1,2,3,4,10,11,12],[4,10,12])),(19,some ([1,2,3,4,10,11,12,13,14,15,16],[4,10,12,13,14])),(21,some ([1,2,3,4,10,11,14,15,16],[4,10,14])),(25,some ([1,2,3,4,10,11,14,17],[4,10,14]))],out:=[(12,some ([1,2,3,4,10,11,12,13,14,15,61],[4,10,12,13,14])),(14,some ([1,2,3,4,10,11,12,13,14,15,66],[4,10,12,13,14])),(21,some ([1,2,3,4,10,11,14,90],[4,10,14])),(32,some ([14,17,120],[14]))],loopK:=[],frz:=[],sch:=[(14,.first 0 [3,4] [1,2]<| .first 1 [2,3,4] []<| .fork 2 (.fork 3 (.first 4 [] []<| .done) (.stop)) (.stop))],shut:=[19]}
noncomputable def fc24:FCfg:={par:=[.cst false,.cst false,.cst false,.cst false],inn:=[(4,some ([10,11],[]))],out:=[(2,some ([10,11,28],[]))],loopK:=[],frz:=[8],sch:=[],shut:=[]}
noncomputable def fc25:FCfg:={par:=[.cst false,.cst false,.cst false,.cst false],inn:=[(1,some ([1,2,3,4],[]))],out:=[],loopK:=[],frz:=[4],sch:=[],shut:=[]}
noncomputable def fc37:FCfg:={par:=[.cst false,.cst false],inn:=[],out:=[],loopK:=[],frz:=[],sch:=[],shut:=[]}
noncomputable def fc39:FCfg:={par:=[.cst false],inn:=[(3,some ([1,2,3],[1,2,3])),(4,some ([1,2,3],[1,2,3])),(5,some ([1,2,3],[1,2,3])),(6,some ([2,3],[2,3]))],out:=[],loopK:=[],frz:=[],sch:=[],shut:=[]}
noncomputable def fc40:FCfg:={par:=[.cst false,.cst false],inn:=[(8,some ([],[]))],out:=[(6,some ([0,1,5,25],[]))],loopK:=[(4,([0,1,5],[]))],frz:=[],sch:=[(6,.first 0 [2,3,8] [1,4,5,6,7]<| .first 1 [2,3,8] [4,5,6,7]<| .first 2 [3,8] [4,5,6,7]<| .first 3 [8] [4,5,6,7]<| .first 4 [6,7,8] [5]<| .first 5 [6,7,8] []<| .first 6 [7,8] []<| .first 7 [8] []<| .first 8 [] []<| .done)],shut:=[]}
noncomputable def fc41:FCfg:={par:=[.cst false,.cst false],inn:=[],out:=[],loopK:=[],frz:=[],sch:=[],shut:=[]}
noncomputable def fc42:FCfg:={par:=[.ws,.cst false],inn:=[],out:=[],loopK:=[],frz:=[],sch:=[],shut:=[]}
noncomputable def fc43:FCfg:={par:=[.row,.cst false],inn:=[(5,some ([0,1,5],[0])),(6,some ([1],[0]))],out:=[],loopK:=[(2,([0,1,5],[0]))],frz:=[],sch:=[],shut:=[]}
noncomputable def fc44:FCfg:={par:=[.cst false,.cst false],inn:=[(7,some ([1],[]))],out:=[],loopK:=[(2,([0,1,5],[]))],frz:=[],sch:=[],shut:=[]}
noncomputable def fc45:FCfg:={par:=[.cst false,.cst false],inn:=[(10,some ([1],[]))],out:=[],loopK:=[(5,([0,1,5],[]))],frz:=[],sch:=[],shut:=[]}
noncomputable def fc46:FCfg:={par:=[.cst false],inn:=[(4,some ([0,3,4],[3])),(6,some ([3],[3]))],out:=[],loopK:=[(3,([0,3,4],[3]))],frz:=[],sch:=[],shut:=[]}
noncomputable def fc47:FCfg:={par:=[.cst false,.cst false],inn:=[(8,some ([],[]))],out:=[(6,some ([0,1,5,26],[]))],loopK:=[(4,([0,1,5],[]))],frz:=[],sch:=[(6,.first 0 [2,3,8,9] [1,4,5,6,7]<| .first 1 [2,3,8,9] [4,5,6,7]<| .first 2 [3,8,9] [4,5,6,7]<| .first 3 [8,9] [4,5,6,7]<| .first 4 [6,7,8,9] [5]<| .first 5 [6,7,8,9] []<| .first 6 [7,8,9] []<| .first 7 [8,9] []<| .fork 8 (.first 9 [] []<| .done) (.stop))],shut:=[]}
noncomputable def fc48:FCfg:={par:=[.row,.cst false],inn:=[(5,some ([0,1,5],[0])),(7,some ([0,1,5],[0])),(9,some ([0,1,5],[0])),(10,some ([1],[0]))],out:=[],loopK:=[(2,([0,1,5],[0]))],frz:=[],sch:=[],shut:=[]}
noncomputable def fc51:FCfg:={par:=[.cut 4],inn:=[(11,some ([],[]))],out:=[(1,some ([0,32],[])),(6,some ([0,3,75],[])),(9,some ([0,3,95],[]))],loopK:=[(4,([0,3],[]))],frz:=[],sch:=[(6,.first 0 (rg [1,4,5,34]) [4]<| .first 1 (rg [2,4,5,34]) [4]<| .first 2 (rg [3,4,5,34]) [4]<| .first 3 (rg [5,34]) [4]<| .first 4 (rg [5,34]) []<| .first 5 (rg [6,34]) []<| .first 6 (rg [7,34]) []<| .first 7 (rg [8,34]) []<| .fork 8 (.first 9 (rg [10,34]) []<| .first 10 (rg [11,34]) []<| .first 11 (rg [12,34]) []<| .first 12 (rg [13,34]) []<| .first 13 (rg [14,34]) []<| .first 14 [15,16,17,20,21,22,31,32,33] (rg [18,20,23,31])<| .first 15 [16,17,20,21,22,31,32,33] (rg [18,20,23,31])<| .first 16 [17,20,21,22,31,32,33] (rg [18,20,23,31])<| .first 17 [20,21,22,31,32,33] (rg [18,20,23,31])<| .first 18 [19,20,21,22,31,32,33] (rg [23,31])<| .first 19 [20,21,22,31,32,33] (rg [23,31])<| .first 20 [21,22,31,32,33] (rg [23,31])<| .first 21 [22,31,32,33] (rg [23,31])<| .first 22 [31,32,33] (rg [23,31])<| .first 23 (rg [24,27,28,34]) [27]<| .first 24 (rg [25,27,28,34]) [27]<| .first 25 [26,28,29,30,31,32,33] [27]<| .first 26 (rg [28,34]) [27]<| .first 27 (rg [28,34]) []<| .first 28 [29,30,31,32,33] []<| .first 29 [30,31,32,33] []<| .first 30 [31,32,33] []<| .first 31 [32,33] []<| .first 32 [33] []<| .first 33 [] []<| .done) (.stop))],shut:=[]}
noncomputable def fc54:FCfg:={par:=[.cst false],inn:=[(6,some ([1,3,4,32,33,34],[1,4])),(9,some ([1],[1])),(12,some ([1,5,6,63,64,65],[1,6])),(18,some ([],[]))],out:=[(1,some ([1,30],[1])),(6,some ([1,32,33,34,60],[1])),(12,some ([1,6,63,64,65,89],[1,6])),(15,some ([1,63,64,65,104],[1]))],loopK:=[(4,([1,32,33,34],[1])),(10,([1,63,64,65],[1]))],frz:=[],sch:=[(6,.first 0 (rg [1,2,4,22]) [2,3]<| .first 1 (rg [4,22]) [2,3]<| .first 2 (rg [3,22]) []<| .first 3 (rg [4,22]) []<| .fork 4 (.first 5 (rg [6,22]) []<| .first 6 (rg [7,22]) []<| .first 7 (rg [8,9,11,22]) [9,10]<| .first 8 (rg [11,22]) [9,10]<| .first 9 (rg [10,22]) []<| .first 10 (rg [11,22]) []<| .fork 11 (.first 12 (rg [13,22]) []<| .first 13 (rg [14,22]) []<| .first 14 (rg [15,22]) []<| .first 15 [16,18,20,21] [17,19]<| .first 16 [18,20,21] [17,19]<| .first 17 [18,20,21] [19]<| .first 19 [20,21] [18]<| .fork 18 (.fork 20 (.first 21 [] []<| .done) (.stop)) (.stop)) (.stop)) (.stop)),(12,.first 0 (rg [1,20]) []<| .first 1 (rg [2,20]) []<| .fork 2 (.first 3 (rg [4,20]) []<| .first 4 (rg [5,20]) []<| .first 5 (rg [6,20]) []<| .first 6 (rg [7,20]) []<| .first 7 (rg [8,20]) []<| .first 8 [9,12,13,14,17,18,19] [10,11,15,16]<| .first 9 [12,13,14,17,18,19] [10,11,15,16]<| .first 10 [11,12,13,14,17,18,19] [15,16]<| .first 11 [12,13,14,17,18,19] [15,16]<| .first 12 [13,14,17,18,19] [15,16]<| .first 13 [14,17,18,19] [15,16]<| .first 14 [17,18,19] [15,16]<| .first 15 [16,17,18,19] []<| .first 16 [17,18,19] []<| .first 17 [18,19] []<| .first 18 [19] []<| .first 19 [] []<| .done) (.stop))],shut:=[]}
noncomputable def fc63:FCfg:={par:=[.cst false],inn:=[(2,some ([1,3],[1,3])),(5,some ([3,5,11,12,13],[3,5])),(7,some ([3],[3])),(14,some ([3,6,7,8,28,29,33,34],[3,6,8])),(16,some ([3,6,7,28,29,33,34],[3,6])),(17,some ([3,6,28,29],[3,6])),(18,some ([6],[6]))],out:=[(5,some ([3,11,12,13],[3])),(14,some ([3,6,7,8,28,29,33,34,47],[3,6,8])),(15,some ([3,6,7,28,29,33,34],[3,6]))],loopK:=[(3,([3,11,12,13],[3])),(9,([3,6,28,29],[3,6])),(12,([3,6,7,28,29,33,34],[3,6]))],frz:=[2],sch:=[(5,.first 1 [2,3,4,5,6] [0]<| .first 2 [3,4,5,6] [0]<| .first 0 [5,6] [3,4]<| .fork 3 (.fork 4 (.fork 5 (.fork 6 (.done) (.stop)) (.stop)) (.stop)) (.stop)),(15,.first 0 [9,10] (rg [1,9])<| .first 1 [9,10] (rg [2,9])<| .first 2 [4,5,8,9,10] [3,6,7]<| .first 3 [4,5,8,9,10] [6,7]<| .first 6 [7,8,9,10] [4,5]<| .first 4 [5,8,9,10] [7]<| .first 5 [8,9,10] [7]<| .fork 7 (.fork 8 (.first 9 [10] []<| .fork 10 (.done) (.stop)) (.stop)) (.stop))],shut:=[]}
noncomputable def fc67:FCfg:={par:=[.cst false,.cst false,.cst false,.cst false,.cst false],inn:=[(6,some ([12],[39])),(7,some ([12],[39]))],out:=[(1,some ([1,2,3,4,5,13],[5])),(3,some ([1,2,3,4,5,22],[5]))],loopK:=[],frz:=[],sch:=[],shut:=[]}
noncomputable def fc68:FCfg:={par:=[.cut 4,.cst false,.cst false,.cst false,.cst false],inn:=[(7,some ([3,12],[41]))],out:=[(1,some ([0,1,2,3,4,20],[])),(3,some ([0,1,2,3,4,28],[])),(5,some ([3,12],[41]))],loopK:=[],frz:=[],sch:=[(5,.first 0 [1,11,12,13] (rg [2,11])<| .first 2 [3,4,5,6,11,12,13] [1,7,8,9,10]<| .first 3 [4,5,6,11,12,13] [1,7,8,9,10]<| .first 4 [5,6,11,12,13] [1,7,8,9,10]<| .first 5 [6,11,12,13] [1,7,8,9,10]<| .first 6 [11,12,13] [1,7,8,9,10]<| .first 7 [11,12,13] [1,8,9,10]<| .first 8 [11,12,13] [1,9,10]<| .first 9 [11,12,13] [1,10]<| .first 10 [11,12,13] [1]<| .fork 1 (.fork 11 (.fork 12 (.fork 13 (.done) (.stop)) (.stop)) (.stop)) (.stop))],shut:=[]}
noncomputable def fc69:FCfg:={par:=[.cst false],inn:=[],out:=[],loopK:=[],frz:=[],sch:=[],shut:=[]}
noncomputable def fc71:FCfg:={par:=[.cst false],inn:=[(9,some ([0,3,4,5,6,7,11,12,15,16,17],[3,7])),(12,some ([0,3,4,5,11,12,15,16,17],[3])),(13,some ([0,3,5,11,12],[3])),(15,some ([3],[3]))],out:=[(9,some ([0,3,4,5,8,11,12,15,16,17],[3])),(10,some ([0,3,4,5,8,11,12,15,16,17,39],[3]))],loopK:=[(3,([0,3,11,12],[3])),(7,([0,3,4,5,11,12,15,16,17],[3]))],frz:=[],sch:=[(9,.first 0 [10,11] (rg [1,10])<| .first 1 [8,9,10,11] [2,3,4,5,6,7]<| .first 2 [4,7,8,9,10,11] [3,5,6]<| .first 3 [4,7,8,9,10,11] [5,6]<| .first 4 [7,8,9,10,11] [5,6]<| .first 5 [6,7,8,9,10,11] []<| .first 6 [7,8,9,10,11] []<| .first 7 [8,9,10,11] []<| .first 8 [9,10,11] []<| .first 9 [10,11] []<| .fork 10 (.fork 11 (.done) (.stop)) (.stop))],shut:=[]}
noncomputable def fc79:FCfg:={par:=[.cst false,.cst false,.cst false],inn:=[],out:=[(1,some ([6],[]))],loopK:=[],frz:=[],sch:=[],shut:=[]}
noncomputable def fc80:FCfg:={par:=[.cst false,.cst false],inn:=[],out:=[],loopK:=[],frz:=[],sch:=[],shut:=[]}
noncomputable def fc82:FCfg:={par:=[.cst false,.cst false],inn:=[],out:=[],loopK:=[],frz:=[],sch:=[],shut:=[]}
noncomputable def fc83:FCfg:={par:=[.cst false,.cst false],inn:=[(10,some ([1],[]))],out:=[],loopK:=[(5,([0,1,5],[]))],frz:=[],sch:=[],shut:=[]}
noncomputable def fc85:FCfg:={par:=[.cst false],inn:=[(4,some ([0,3,4],[3])),(6,some ([3],[3]))],out:=[],loopK:=[(3,([0,3,4],[3]))],frz:=[],sch:=[],shut:=[]}
noncomputable def fc86:FCfg:={par:=[.cst false],inn:=[(4,some ([0,3,4],[3])),(6,some ([3],[3]))],out:=[],loopK:=[(3,([0,3,4],[3]))],frz:=[],sch:=[],shut:=[]}
noncomputable def fc87:FCfg:={par:=[.cst false,.cst false],inn:=[(8,some ([],[]))],out:=[(6,some ([0,1,5,26],[]))],loopK:=[(4,([0,1,5],[]))],frz:=[],sch:=[(6,.first 0 [2,3,8,9] [1,4,5,6,7]<| .first 1 [2,3,8,9] [4,5,6,7]<| .first 2 [3,8,9] [4,5,6,7]<| .first 3 [8,9] [4,5,6,7]<| .first 4 [6,7,8,9] [5]<| .first 5 [6,7,8,9] []<| .first 6 [7,8,9] []<| .first 7 [8,9] []<| .fork 8 (.first 9 [] []<| .done) (.stop))],shut:=[]}
noncomputable def fc88:FCfg:={par:=[.cst false,.cst false],inn:=[(8,some ([],[]))],out:=[(6,some ([0,1,5,26],[]))],loopK:=[(4,([0,1,5],[]))],frz:=[],sch:=[(6,.first 0 [2,3,8,9] [1,4,5,6,7]<| .first 1 [2,3,8,9] [4,5,6,7]<| .first 2 [3,8,9] [4,5,6,7]<| .first 3 [8,9] [4,5,6,7]<| .first 4 [6,7,8,9] [5]<| .first 5 [6,7,8,9] []<| .first 6 [7,8,9] []<| .first 7 [8,9] []<| .fork 8 (.first 9 [] []<| .done) (.stop))],shut:=[]}
noncomputable def fc89:FCfg:={par:=[.row,.cst false],inn:=[(5,some ([0,1,5],[])),(7,some ([0,1,5],[])),(8,some ([1],[]))],out:=[],loopK:=[(2,([0,1,5],[]))],frz:=[],sch:=[],shut:=[]}
noncomputable def fc90:FCfg:={par:=[.ws,.cst false],inn:=[(5,some ([0,1,5],[])),(7,some ([1],[]))],out:=[],loopK:=[(2,([0,1,5],[]))],frz:=[],sch:=[],shut:=[]}
noncomputable def fc91:FCfg:={par:=[.cst false,.cst false],inn:=[],out:=[],loopK:=[],frz:=[],sch:=[],shut:=[]}
noncomputable def fc92:FCfg:={par:=[.cst false],inn:=[(3,some ([1,2,3],[1,2,3])),(4,some ([1,2,3],[1,2,3])),(5,some ([2,3],[2,3]))],out:=[],loopK:=[],frz:=[],sch:=[],shut:=[]}
noncomputable def fc93:FCfg:={par:=[.cst false,.cst false],inn:=[],out:=[],loopK:=[],frz:=[],sch:=[],shut:=[]}
noncomputable def fc94:FCfg:={par:=[.cst false],inn:=[(7,some ([3],[]))],out:=[],loopK:=[(4,([0,3],[]))],frz:=[],sch:=[],shut:=[]}
noncomputable def fc97:FCfg:={par:=[.cst false,.cst false,.cst false],inn:=[],out:=[(1,some ([6],[]))],loopK:=[],frz:=[],sch:=[],shut:=[]}
noncomputable def fc98:FCfg:={par:=[.cut 4],inn:=[(5,some ([0,3],[])),(13,some ([],[]))],out:=[(6,some ([0,3,49],[])),(11,some ([0,3,4,69],[]))],loopK:=[(4,([0,3],[])),(9,([0,3,4],[]))],frz:=[],sch:=[(6,.first 0 (rg [1,4,5,8,12,30]) [4,8,9,10,11]<| .first 1 (rg [2,4,5,8,12,30]) [4,8,9,10,11]<| .first 2 (rg [3,4,5,8,12,30]) [4,8,9,10,11]<| .first 3 (rg [5,8,12,30]) [4,8,9,10,11]<| .first 4 (rg [5,8,12,30]) [8,9,10,11]<| .first 5 (rg [6,8,12,30]) [8,9,10,11]<| .first 6 (rg [7,8,12,30]) [8,9,10,11]<| .first 7 (rg [12,30]) [8,9,10,11]<| .first 8 (rg [9,30]) []<| .first 9 (rg [10,30]) []<| .first 10 (rg [11,30]) []<| .first 11 (rg [12,30]) []<| .fork 12 (.first 13 (rg [14,30]) []<| .first 14 (rg [15,30]) []<| .first 15 [16,17,18,20,21,22,27,28,29] [19,23,24,25,26]<| .first 16 [17,18,20,21,22,27,28,29] [19,23,24,25,26]<| .first 17 [18,20,21,22,27,28,29] [19,23,24,25,26]<| .first 18 [20,21,22,27,28,29] [19,23,24,25,26]<| .first 19 [20,21,22,27,28,29] [23,24,25,26]<| .first 20 [21,22,27,28,29] [23,24,25,26]<| .first 21 [22,27,28,29] [23,24,25,26]<| .first 22 [27,28,29] [23,24,25,26]<| .first 23 (rg [24,30]) []<| .first 24 [25,26,27,28,29] []<| .first 25 [26,27,28,29] []<| .first 26 [27,28,29] []<| .fork 27 (.first 28 [29] []<| .first 29 [] []<| .done) (.stop)) (.stop)),(11,.first 0 [1,2,3,5,6,14] (rg [4,5,7,14])<| .first 1 [2,3,5,6,14] (rg [4,5,7,14])<| .first 2 [3,5,6,14] (rg [4,5,7,14])<| .first 3 [5,6,14] (rg [4,5,7,14])<| .first 4 [5,6,14] (rg [7,14])<| .first 5 [6,14] (rg [7,14])<| .first 6 [14] (rg [7,14])<| .first 7 [8,9,10,12,13,14] [11]<| .first 8 [9,10,12,13,14] [11]<| .first 9 [10,12,13,14] [11]<| .first 10 [12,13,14] [11]<| .first 11 [12,13,14] []<| .first 12 [13,14] []<| .first 13 [14] []<| .first 14 [] []<| .done)],shut:=[]}
noncomputable def fc99:FCfg:={par:=[.cst false],inn:=[(8,some ([],[]))],out:=[(1,some ([0,16],[])),(6,some ([0,3,34],[]))],loopK:=[(4,([0,3],[]))],frz:=[],sch:=[],shut:=[]}
noncomputable def fc100:FCfg:={par:=[.cut 4,.cst false],inn:=[(8,some ([6],[6]))],out:=[(5,some ([0,1,6,7,26],[6])),(7,some ([0,1,6,7],[6]))],loopK:=[(3,([0,1,6,7],[6]))],frz:=[],sch:=[(5,.first 0 [2,3,10,11] [1,4,5,6,7,8,9]<| .first 1 [2,3,10,11] [4,5,6,7,8,9]<| .first 2 [3,10,11] [4,5,6,7,8,9]<| .first 3 [10,11] [4,5,6,7,8,9]<| .first 4 (rg [5,12]) []<| .first 5 [6,7,8,9,10,11] []<| .first 6 [7,8,9,10,11] []<| .first 7 [8,9,10,11] []<| .first 8 [9,10,11] []<| .first 9 [10,11] []<| .fork 10 (.first 11 [] []<| .done) (.stop)),(7,.first 0 [12,13] (rg [1,12])<| .first 1 (rg [2,5,9,14]) [5,6,7,8]<| .first 2 [3,4,9,10,11,12,13] [5,6,7,8]<| .first 3 [4,9,10,11,12,13] [5,6,7,8]<| .first 4 [9,10,11,12,13] [5,6,7,8]<| .first 5 (rg [7,14]) [6]<| .first 6 (rg [7,14]) []<| .first 7 (rg [8,14]) []<| .first 8 [9,10,11,12,13] []<| .first 9 [10,11,12,13] []<| .first 10 [11,12,13] []<| .fork 11 (.fork 12 (.fork 13 (.done) (.stop)) (.stop)) (.stop))],shut:=[]}
noncomputable def fc101:FCfg:={par:=[.cst false],inn:=[(9,some ([0,3],[])),(11,some ([0,3,5],[])),(13,some ([0,3,5,6],[6])),(14,some ([0,3,5,6,7],[6,7])),(15,some ([0,3,5,6,7,8],[6,7,8])),(22,some ([0],[]))],out:=[(2,some ([0,3,17],[])),(15,some ([0,3,5,6,7,66],[6,7])),(20,some ([0,3,5,6,7,9,95],[6,7]))],loopK:=[(5,([0,3,4],[])),(10,([0,3,5],[])),(18,([0,3,5,6,7,9],[6,7]))],frz:=[],sch:=[(20,.first 0 (rg [1,2,3,4,5,22]) [2,4]<| .first 1 (rg [3,4,5,22]) [2,4]<| .first 2 (rg [3,4,5,22]) [4]<| .first 3 (rg [5,22]) [4]<| .first 4 (rg [5,22]) []<| .first 5 (rg [6,22]) []<| .first 6 (rg [7,22]) []<| .first 7 [20,21] (rg [8,20])<| .first 8 [20,21] (rg [9,20])<| .first 9 [11,12,20,21] (rg [10,11,13,20])<| .first 10 [11,12,20,21] (rg [13,20])<| .first 11 [12,20,21] (rg [13,20])<| .first 12 [20,21] (rg [13,20])<| .first 13 [18,19,20,21] [14,15,16,17]<| .first 14 [15,17,18,19,20,21] [16]<| .first 15 [17,18,19,20,21] [16]<| .first 16 [17,18,19,20,21] []<| .first 17 [18,19,20,21] []<| .first 18 [19,20,21] []<| .first 19 [20,21] []<| .fork 20 (.first 21 [] []<| .done) (.stop))],shut:=[]}
noncomputable def fc105:FCfg:={par:=[.cst false,.cst false],inn:=[],out:=[],loopK:=[],frz:=[],sch:=[],shut:=[]}
noncomputable def fc106:FCfg:={par:=[.cst false],inn:=[(8,some ([],[]))],out:=[(1,some ([0,21],[])),(6,some ([0,3,49],[]))],loopK:=[(4,([0,3],[]))],frz:=[],sch:=[],shut:=[]}
noncomputable def fc107:FCfg:={par:=[.cst false,.cst false],inn:=[(9,some ([6],[6]))],out:=[],loopK:=[(3,([0,6,10,11,12],[6]))],frz:=[],sch:=[],shut:=[]}
noncomputable def fc108:FCfg:={par:=[.cst false],inn:=[(15,some ([0,3,23,24],[])),(16,some ([0],[]))],out:=[(2,some ([0,3,21],[])),(7,some ([0,3,4,5,6,7,23,24],[5,6,7])),(8,some ([0,3,4,5,6,23,24,59],[5,6])),(13,some ([0,3,4,5,6,8,23,24,88],[5,6]))],loopK:=[(5,([0,3,23,24],[])),(11,([0,3,4,5,6,8,23,24],[5,6]))],frz:=[],sch:=[(7,.first 0 [2,3,21,22,23] (rg [1,2,4,21])<| .first 1 [2,3,21,22,23] (rg [4,21])<| .first 2 [3,21,22,23] (rg [4,21])<| .first 3 [21,22,23] (rg [4,21])<| .first 4 [9,10,22,23] (rg [5,9,11,22])<| .first 5 [6,8,9,10,22,23] (rg [7,8,11,22])<| .first 6 [8,9,10,22,23] (rg [7,8,11,22])<| .first 7 [8,9,10,22,23] (rg [11,22])<| .first 8 [9,10,22,23] (rg [11,22])<| .first 9 [10,22,23] (rg [11,22])<| .first 10 [22,23] (rg [11,22])<| .first 11 [16,17,23] (rg [12,16,18,23])<| .first 12 [13,15,16,17,23] [14,18,19,20,21,22]<| .first 13 [15,16,17,23] [14,18,19,20,21,22]<| .first 14 [15,16,17,23] [18,19,20,21,22]<| .first 15 [16,17,23] [18,19,20,21,22]<| .first 16 [17,23] [18,19,20,21,22]<| .first 17 [23] [18,19,20,21,22]<| .fork 18 (.fork 19 (.fork 20 (.fork 21 (.fork 22 (.fork 23 (.done) (.stop)) (.stop)) (.stop)) (.stop)) (.fork 20 (.fork 19 (.fork 21 (.fork 22 (.fork 23 (.done) (.stop)) (.stop)) (.stop)) (.stop)) (.stop))) (.fork 19 (.fork 18 (.fork 20 (.fork 21 (.fork 22 (.fork 23 (.done) (.stop)) (.stop)) (.stop)) (.stop)) (.fork 20 (.fork 18 (.fork 21 (.fork 22 (.fork 23 (.done) (.stop)) (.stop)) (.stop)) (.stop)) (.stop))) (.fork 20 (.fork 18 (.fork 19 (.fork 21 (.fork 22 (.fork 23 (.done) (.stop)) (.stop)) (.stop)) (.stop)) (.fork 19 (.fork 18 (.fork 21 (.fork 22 (.fork 23 (.done) (.stop)) (.stop)) (.stop)) (.stop)) (.stop))) (.stop)))),(13,.first 0 (rg [1,2,3,4,5,22]) [2,4]<| .first 1 (rg [3,4,5,22]) [2,4]<| .first 2 (rg [3,4,5,22]) [4]<| .first 3 (rg [5,22]) [4]<| .first 4 (rg [5,22]) []<| .first 5 (rg [6,22]) []<| .first 6 (rg [7,22]) []<| .first 7 [20,21] (rg [8,20])<| .first 8 [20,21] (rg [9,20])<| .first 9 [11,12,20,21] (rg [10,11,13,20])<| .first 10 [11,12,20,21] (rg [13,20])<| .first 11 [12,20,21] (rg [13,20])<| .first 12 [20,21] (rg [13,20])<| .first 13 [18,19,20,21] [14,15,16,17]<| .first 14 [15,17,18,19,20,21] [16]<| .first 15 [17,18,19,20,21] [16]<| .first 16 [17,18,19,20,21] []<| .first 17 [18,19,20,21] []<| .first 18 [19,20,21] []<| .first 19 [20,21] []<| .fork 20 (.first 21 [] []<| .done) (.stop))],shut:=[]}
noncomputable def fc113:FCfg:={par:=[.cst false],inn:=[(8,some ([3],[3]))],out:=[],loopK:=[(3,([0,3,8,9,10],[3]))],frz:=[],sch:=[],shut:=[]}
noncomputable def fc114:FCfg:={par:=[.cst false,.cst false],inn:=[],out:=[],loopK:=[],frz:=[],sch:=[],shut:=[]}
noncomputable def fc115:FCfg:={par:=[.cst false],inn:=[],out:=[(1,some ([4],[]))],loopK:=[],frz:=[],sch:=[(1,.first 0 [2,3,5,6] [1,4]<| .first 1 [2,3,5,6] [4]<| .first 2 [3,5,6] [4]<| .first 3 [5,6] [4]<| .first 4 [5,6] []<| .fork 5 (.fork 6 (.done) (.stop)) (.stop))],shut:=[]}
noncomputable def fc116:FCfg:={par:=[.cst false,.cst false],inn:=[],out:=[],loopK:=[],frz:=[],sch:=[],shut:=[]}
noncomputable def fc120:FCfg:={par:=[.cst false],inn:=[],out:=[(1,some ([2],[]))],loopK:=[],frz:=[],sch:=[],shut:=[]}
noncomputable def fc121:FCfg:={par:=[.ptr [.imm,.imm,.imm,.imm,.imm,.sh,.imm],.mv],inn:=[(2,some ([0,1],[0,1])),(8,some ([0],[0])),(9,some ([0],[0])),(19,some ([0,1,5,6,7,8,57,58],[0,1])),(22,some ([],[0]))],out:=[(4,some ([0,1,5,6],[0,1])),(17,some ([0,1,5,6,7,8,57,58,67,68,69],[0,1])),(19,some ([0,1,5,6,57,58,112],[0,1]))],loopK:=[(11,([0,1,5,6,57,58],[0,1])),(15,([0,1,5,6,7,8,57,58,67,68,69],[0,1]))],frz:=[],sch:=[(4,.first 0 [1,7,8] [2,3,4,5,6]<| .first 1 [7,8] [2,3,4,5,6]<| .first 2 [3,4,5,6,8] [7]<| .first 3 [4,5,6,8] [7]<| .first 4 [5,6,8] [7]<| .first 5 [6,8] [7]<| .first 6 [8] [7]<| .fork 7 (.fork 8 (.done) (.stop)) (.stop)),(17,.first 0 (rg [1,30]) []<| .first 1 (rg [2,30]) []<| .first 2 (rg [4,30]) [3]<| .first 3 (rg [4,30]) []<| .first 4 (rg [5,30]) []<| .first 5 (rg [6,30]) []<| .first 6 [7,8,9,20,21,26,27,28,29] (rg [10,20,22,26])<| .first 7 [8,9,20,21,26,27,28,29] (rg [10,20,22,26])<| .first 8 [9,20,21,26,27,28,29] (rg [10,20,22,26])<| .first 9 [20,21,26,27,28,29] (rg [10,20,22,26])<| .first 10 [15,17,19,20,21,26,27,28,29] [11,12,13,14,16,18,22,23,24,25]<| .first 11 [13,14,15,17,19,20,21,26,27,28,29] [12,16,18,22,23,24,25]<| .first 12 [13,14,15,17,19,20,21,26,27,28,29] [16,18,22,23,24,25]<| .first 13 [14,15,17,19,20,21,26,27,28,29] [16,18,22,23,24,25]<| .first 14 [15,17,19,20,21,26,27,28,29] [16,18,22,23,24,25]<| .first 15 [17,19,20,21,26,27,28,29] [16,18,22,23,24,25]<| .first 16 [17,19,20,21,26,27,28,29] [18,22,23,24,25]<| .first 17 [19,20,21,26,27,28,29] [18,22,23,24,25]<| .first 18 [19,20,21,26,27,28,29] [22,23,24,25]<| .first 19 [20,21,26,27,28,29] [22,23,24,25]<| .first 20 [21,26,27,28,29] [22,23,24,25]<| .first 21 [26,27,28,29] [22,23,24,25]<| .first 22 (rg [23,30]) []<| .first 23 (rg [24,30]) []<| .first 24 [25,26,27,28,29] []<| .first 25 [26,27,28,29] []<| .first 26 [27,28,29] []<| .first 27 [28,29] []<| .first 28 [29] []<| .fork 29 (.done) (.stop))],shut:=[]}
noncomputable def fc122:FCfg:={par:=[.cst false],inn:=[(6,some ([0],[]))],out:=[(6,some ([2],[]))],loopK:=[(2,([0,3],[]))],frz:=[],sch:=[],shut:=[]}
noncomputable def fc123:FCfg:={par:=[.cut 4],inn:=[(4,some ([0,3,4],[3])),(8,some ([0,3,4,5,6],[3,5])),(11,some ([3],[3]))],out:=[],loopK:=[(3,([0,3,4],[3])),(7,([0,3,4,5,6],[3,5]))],frz:=[],sch:=[],shut:=[]}
noncomputable def fc124:FCfg:={par:=[.ptr [.imm,.imm,.imm,.imm,.sh,.imm,.sh,.imm,.imm,.imm]],inn:=[(2,some ([0],[0])),(6,some ([0],[0])),(8,some ([0],[0])),(13,some ([0,3],[0])),(17,some ([],[0]))],out:=[(2,some ([0,20],[0])),(4,some ([0,30],[0])),(13,some ([0,3,4],[0])),(14,some ([0,3,4],[0]))],loopK:=[(10,([0,3],[0]))],frz:=[],sch:=[(2,.first 0 [1,2,3,8] [4,5,6,7]<| .first 1 [2,3,8] [4,5,6,7]<| .first 2 [3,8] [4,5,6,7]<| .first 3 [8] [4,5,6,7]<| .first 4 [5,6,7,8] []<| .first 5 [6,7,8] []<| .first 6 [7,8] []<| .first 7 [8] []<| .first 8 [] []<| .done),(4,.first 0 [1,2,3,4,9] [5,6,7,8]<| .first 1 [2,3,4,9] [5,6,7,8]<| .first 2 [3,4,9] [5,6,7,8]<| .first 3 [4,9] [5,6,7,8]<| .first 4 [9] [5,6,7,8]<| .first 5 [6,7,8,9] []<| .first 6 [7,8,9] []<| .first 7 [8,9] []<| .first 8 [9] []<| .first 9 [] []<| .done),(14,.first 0 [12,13,14] (rg [1,12])<| .first 1 [2,3,4,11,12,13,14] [5,6,7,8,9,10]<| .first 2 [3,4,11,12,13,14] [5,6,7,8,9,10]<| .first 3 [4,11,12,13,14] [5,6,7,8,9,10]<| .first 4 [11,12,13,14] [5,6,7,8,9,10]<| .first 5 (rg [6,15]) []<| .first 6 (rg [7,15]) []<| .first 7 (rg [8,15]) []<| .first 8 (rg [9,15]) []<| .first 9 [10,11,12,13,14] []<| .first 10 [11,12,13,14] []<| .fork 11 (.first 12 [13,14] []<| .first 13 [14] []<| .fork 14 (.done) (.stop)) (.stop))],shut:=[]}
noncomputable def fc130:FCfg:={par:=[.cst false],inn:=[],out:=[],loopK:=[],frz:=[],sch:=[],shut:=[]}
noncomputable def fc134:FCfg:={par:=[.cst false,.cst false],inn:=[],out:=[(1,some ([0,1,14],[]))],loopK:=[],frz:=[],sch:=[],shut:=[]}
noncomputable def fc135:FCfg:={par:=[.cst false,.cst false],inn:=[],out:=[],loopK:=[],frz:=[],sch:=[],shut:=[]}
noncomputable def fc138:FCfg:={par:=[.cst false],inn:=[(3,some ([1,2,3],[1,2,3])),(4,some ([2,3],[2,3]))],out:=[],loopK:=[],frz:=[],sch:=[],shut:=[]}
noncomputable def fc139:FCfg:={par:=[.cst false],inn:=[(3,some ([1,2,3],[1,2,3])),(4,some ([2,3],[2,3]))],out:=[],loopK:=[],frz:=[],sch:=[],shut:=[]}
noncomputable def fc140:FCfg:={par:=[.cst false,.cst false],inn:=[],out:=[],loopK:=[],frz:=[],sch:=[],shut:=[]}
noncomputable def fc141:FCfg:={par:=[.cst false,.cst false],inn:=[],out:=[],loopK:=[],frz:=[],sch:=[],shut:=[]}
noncomputable def fc142:FCfg:={par:=[.cst false],inn:=[],out:=[(1,some ([2],[]))],loopK:=[],frz:=[],sch:=[],shut:=[]}
noncomputable def fc143:FCfg:={par:=[.cst false],inn:=[],out:=[(1,some ([2],[]))],loopK:=[],frz:=[],sch:=[],shut:=[]}
noncomputable def fc144:FCfg:={par:=[.cst false],inn:=[],out:=[(1,some ([2],[]))],loopK:=[],frz:=[],sch:=[],shut:=[]}
noncomputable def fc145:FCfg:={par:=[.cst false,.cst false,.cst false],inn:=[],out:=[(1,some ([6],[]))],loopK:=[],frz:=[],sch:=[(1,.first 0 (rg [3,36]) [1,2]<| .first 1 (rg [3,36]) [2]<| .first 2 (rg [3,36]) []<| .fork 3 (.first 4 (rg [5,36]) []<| .first 5 (rg [6,36]) []<| .first 6 (rg [7,8,18,36]) (rg [8,18])<| .first 7 (rg [18,36]) (rg [8,18])<| .first 8 (rg [9,10,12,13,17,36]) [10,11,13,14,15,16]<| .first 9 (rg [12,13,17,36]) [10,11,13,14,15,16]<| .first 10 (rg [11,13,17,36]) [13,14,15,16]<| .first 11 (rg [12,13,17,36]) [13,14,15,16]<| .first 13 (rg [14,15,17,36]) [12,15,16]<| .first 14 (rg [17,36]) [12,15,16]<| .first 15 (rg [16,36]) [12]<| .first 16 (rg [17,36]) [12]<| .fork 12 (.fork 17 (.fork 18 (.first 19 (rg [20,36]) []<| .first 20 (rg [21,36]) []<| .first 21 [22,33,34,35] (rg [23,33])<| .first 22 [33,34,35] (rg [23,33])<| .first 23 [24,27,32,33,34,35] [25,26,28,29,30,31]<| .first 24 [27,32,33,34,35] [25,26,28,29,30,31]<| .first 25 [26,27,32,33,34,35] [28,29,30,31]<| .first 26 [27,32,33,34,35] [28,29,30,31]<| .first 28 [29,32,33,34,35] [27,30,31]<| .first 29 [32,33,34,35] [27,30,31]<| .first 30 [31,32,33,34,35] [27]<| .first 31 [32,33,34,35] [27]<| .fork 27 (.fork 32 (.fork 33 (.first 34 [35] []<| .fork 35 (.done) (.stop)) (.stop)) (.stop)) (.stop)) (.stop)) (.stop)) (.stop)) (.stop))],shut:=[]}
noncomputable def fc146:FCfg:={par:=[.cst false,.cst false,.cst false,.cst false],inn:=[],out:=[(1,some ([8],[]))],loopK:=[],frz:=[],sch:=[],shut:=[]}
noncomputable def fc147:FCfg:={par:=[.cst false],inn:=[(6,some ([0,3,4,5],[5])),(7,some ([3],[]))],out:=[(6,some ([0,3,4],[]))],loopK:=[(3,([0,3,4],[]))],frz:=[],sch:=[(6,.first 0 [18,19] (rg [1,18])<| .first 1 [3,4,5,8,17,18,19] (rg [2,3,6,8,9,17])<| .first 2 [3,4,5,8,17,18,19] (rg [6,8,9,17])<| .first 3 [4,5,8,17,18,19] (rg [6,8,9,17])<| .first 4 [5,8,17,18,19] (rg [6,8,9,17])<| .first 5 [8,17,18,19] (rg [6,8,9,17])<| .first 6 [7,8,17,18,19] (rg [9,17])<| .first 7 [8,17,18,19] (rg [9,17])<| .first 8 [17,18,19] (rg [9,17])<| .first 9 [11,12,13,16,17,18,19] [10,14,15]<| .first 10 [11,12,13,16,17,18,19] [14,15]<| .first 11 [12,13,16,17,18,19] [14,15]<| .first 12 [13,16,17,18,19] [14,15]<| .first 13 [16,17,18,19] [14,15]<| .first 14 [15,16,17,18,19] []<| .first 15 [16,17,18,19] []<| .first 16 [17,18,19] []<| .first 17 [18,19] []<| .first 18 [19] []<| .fork 19 (.done) (.stop))],shut:=[]}
noncomputable def fc149:FCfg:={par:=[.cst false,.cst false],inn:=[(7,some ([],[]))],out:=[(4,some ([0,3,5,7,8,16],[3]))],loopK:=[(2,([0,3,7,8],[3]))],frz:=[],sch:=[(4,.first 0 [5] [1,2,3,4]<| .first 1 [3,4,5] [2]<| .first 2 [3,4,5] []<| .first 3 [4,5] []<| .first 4 [5] []<| .first 5 [] []<| .done)],shut:=[]}
noncomputable def fc150:FCfg:={par:=[.cst false],inn:=[(4,some ([4,5,6,7],[4])),(7,some ([],[]))],out:=[],loopK:=[(2,([5,6,7],[]))],frz:=[],sch:=[],shut:=[]}
noncomputable def fc151:FCfg:={par:=[.cst false,.cst false,.cst false],inn:=[],out:=[(1,some ([6],[]))],loopK:=[],frz:=[],sch:=[],shut:=[]}
noncomputable def fc152:FCfg:={par:=[.cst false,.cst false,.cst false,.cst false],inn:=[],out:=[(1,some ([8],[]))],loopK:=[],frz:=[],sch:=[],shut:=[]}
noncomputable def fc153:FCfg:={par:=[.cst false],inn:=[(5,some ([0,3,4,5,7,8,9],[5])),(6,some ([0,3,5,6,7,8,9],[5,6])),(8,some ([3],[]))],out:=[],loopK:=[(3,([0,3,7,8,9],[]))],frz:=[],sch:=[],shut:=[]}
noncomputable def fc155:FCfg:={par:=[.cst false,.cst false],inn:=[(7,some ([],[]))],out:=[],loopK:=[(2,([0,1,7,8],[]))],frz:=[],sch:=[],shut:=[]}
noncomputable def fc156:FCfg:={par:=[.cst false,.cst false],inn:=[(7,some ([],[]))],out:=[(4,some ([0,3,5,7,8,16],[3]))],loopK:=[(2,([0,3,7,8],[3]))],frz:=[],sch:=[(4,.first 0 [5] [1,2,3,4]<| .first 1 [3,4,5] [2]<| .first 2 [3,4,5] []<| .first 3 [4,5] []<| .first 4 [5] []<| .first 5 [] []<| .done)],shut:=[]}
noncomputable def fc158:FCfg:={par:=[],inn:=[],out:=[],loopK:=[],frz:=[],sch:=[],shut:=[]}
noncomputable def fc159:FCfg:={par:=[],inn:=[],out:=[],loopK:=[],frz:=[],sch:=[],shut:=[]}
noncomputable def fc160:FCfg:={par:=[.cst false,.cst false],inn:=[],out:=[],loopK:=[],frz:=[],sch:=[],shut:=[]}
noncomputable def fc161:FCfg:={par:=[.cst false,.cst false],inn:=[],out:=[],loopK:=[],frz:=[],sch:=[],shut:=[]}
noncomputable def fc162:FCfg:={par:=[.cut 3],inn:=[],out:=[(2,some ([0,3,19],[])),(5,some ([2],[]))],loopK:=[],frz:=[],sch:=[],shut:=[]}
noncomputable def fc163:FCfg:={par:=[.cut 4,.cst false],inn:=[(5,some ([0,1,5,6,7],[5])),(11,some ([0,1,5,6,7,8],[5])),(13,some ([5],[5]))],out:=[(10,some ([0,1,5,6,7,8,9],[5])),(11,some ([0,1,5,6,7,63],[5]))],loopK:=[(4,([0,1,5,6,7],[5])),(8,([0,1,5,6,7,8,9],[5]))],frz:=[],sch:=[(10,.first 0 (rg [1,25]) []<| .first 1 (rg [2,25]) []<| .first 2 [3,4,5,7,8,9,22,23,24] (rg [6,7,10,22])<| .first 3 [4,5,7,8,9,22,23,24] (rg [6,7,10,22])<| .first 4 [5,7,8,9,22,23,24] (rg [6,7,10,22])<| .first 5 [7,8,9,22,23,24] (rg [6,7,10,22])<| .first 6 [7,8,9,22,23,24] (rg [10,22])<| .first 7 [8,9,22,23,24] (rg [10,22])<| .first 8 [9,22,23,24] (rg [10,22])<| .first 9 [22,23,24] (rg [10,22])<| .first 10 [12,13,22,23,24] (rg [11,12,14,22])<| .first 11 [12,13,22,23,24] (rg [14,22])<| .first 12 [13,22,23,24] (rg [14,22])<| .first 13 [22,23,24] (rg [14,22])<| .first 14 [20,21,22,23,24] [15,16,17,18,19]<| .first 15 [16,19,20,21,22,23,24] [17,18]<| .first 16 (rg [19,25]) [17,18]<| .first 17 (rg [18,25]) []<| .first 18 (rg [19,25]) []<| .first 19 [20,21,22,23,24] []<| .first 20 [21,22,23,24] []<| .first 21 [22,23,24] []<| .fork 22 (.first 23 [24] []<| .fork 24 (.done) (.stop)) (.stop))],shut:=[]}
noncomputable def fc164:FCfg:={par:=[.cut 10],inn:=[(7,some ([],[]))],out:=[(5,some ([0,3,4,64],[]))],loopK:=[(3,([0,3,4],[]))],frz:=[],sch:=[(5,.first 0 (rg [1,4,5,9,10,45]) [4,9]<| .first 1 (rg [2,4,5,9,10,45]) [4,9]<| .first 2 (rg [3,4,5,9,10,45]) [4,9]<| .first 3 (rg [5,9,10,45]) [4,9]<| .first 4 (rg [5,9,10,45]) [9]<| .first 5 (rg [6,9,10,45]) [9]<| .first 6 (rg [7,9,10,45]) [9]<| .first 7 (rg [8,9,10,45]) [9]<| .first 8 (rg [10,45]) [9]<| .first 9 (rg [10,45]) []<| .first 10 (rg [11,45]) []<| .first 11 (rg [12,45]) []<| .first 12 [13,14,15,38,43,44] (rg [16,38,39,43])<| .first 13 [14,15,38,43,44] (rg [16,38,39,43])<| .first 14 [15,38,43,44] (rg [16,38,39,43])<| .first 15 [38,43,44] (rg [16,38,39,43])<| .first 16 [17,18,19,29,30,38,43,44] (rg [20,29,31,38,39,43])<| .first 17 [18,19,29,30,38,43,44] (rg [20,29,31,38,39,43])<| .first 18 [19,29,30,38,43,44] (rg [20,29,31,38,39,43])<| .first 19 [29,30,38,43,44] (rg [20,29,31,38,39,43])<| .first 20 (rg [21,24,25,31,38,39,43,45]) (rg [24,25,31,38,39,43])<| .first 21 [22,23,25,26,27,28,29,30,38,43,44] (rg [24,25,31,38,39,43])<| .first 22 [23,25,26,27,28,29,30,38,43,44] (rg [24,25,31,38,39,43])<| .first 23 [25,26,27,28,29,30,38,43,44] (rg [24,25,31,38,39,43])<| .first 24 [25,26,27,28,29,30,38,43,44] (rg [31,38,39,43])<| .first 25 [26,27,28,29,30,38,43,44] (rg [31,38,39,43])<| .first 26 [27,28,29,30,38,43,44] (rg [31,38,39,43])<| .first 27 [28,29,30,38,43,44] (rg [31,38,39,43])<| .first 28 [29,30,38,43,44] (rg [31,38,39,43])<| .first 29 [30,38,43,44] (rg [31,38,39,43])<| .first 30 [38,43,44] (rg [31,38,39,43])<| .first 31 [32,33,34,36,37,38,43,44] [35,39,40,41,42]<| .first 32 [33,34,36,37,38,43,44] [35,39,40,41,42]<| .first 33 [34,36,37,38,43,44] [35,39,40,41,42]<| .first 34 [36,37,38,43,44] [35,39,40,41,42]<| .first 35 [36,37,38,43,44] [39,40,41,42]<| .first 36 [37,38,43,44] [39,40,41,42]<| .first 37 [38,43,44] [39,40,41,42]<| .first 39 [40,41,42,43,44] [38]<| .first 40 [41,42,43,44] [38]<| .first 41 [42,43,44] [38]<| .first 42 [43,44] [38]<| .fork 38 (.first 43 [44] []<| .first 44 [] []<| .done) (.stop))],shut:=[]}
noncomputable def fc166:FCfg:={par:=[.cst false,.cst false],inn:=[],out:=[],loopK:=[],frz:=[],sch:=[],shut:=[]}
noncomputable def fc167:FCfg:={par:=[.cst false],inn:=[],out:=[],loopK:=[],frz:=[],sch:=[],shut:=[]}
noncomputable def fc168:FCfg:={par:=[.cst false],inn:=[],out:=[(2,some ([2],[]))],loopK:=[],frz:=[],sch:=[],shut:=[]}
noncomputable def fc171:FCfg:={par:=[.cst false,.cst false],inn:=[],out:=[],loopK:=[],frz:=[],sch:=[],shut:=[]}
noncomputable def fc174:FCfg:={par:=[.cst false],inn:=[(4,some ([0,3,4],[3])),(6,some ([3],[3]))],out:=[],loopK:=[(3,([0,3,4],[3]))],frz:=[],sch:=[],shut:=[]}
noncomputable def fc175:FCfg:={par:=[.cst false,.cst false,.cst false],inn:=[],out:=[],loopK:=[],frz:=[],sch:=[],shut:=[]}
noncomputable def fc176:FCfg:={par:=[.cst false,.cst false,.cst false,.cst false],inn:=[],out:=[(1,some ([8],[]))],loopK:=[],frz:=[],sch:=[(1,.first 0 (rg [3,4,7,23]) [1,2,4,5,6]<| .first 1 (rg [3,4,7,23]) [2,4,5,6]<| .first 2 (rg [3,4,7,23]) [4,5,6]<| .first 4 (rg [7,23]) [3,5,6]<| .first 5 (rg [7,23]) [3,6]<| .first 6 (rg [7,23]) [3]<| .fork 3 (.fork 7 (.first 8 (rg [9,23]) []<| .first 9 (rg [10,23]) []<| .first 10 (rg [11,23]) []<| .first 11 [14,18,19,20,21,22] [12,13,15,16,17]<| .first 12 [14,18,19,20,21,22] [13,15,16,17]<| .first 13 [14,18,19,20,21,22] [15,16,17]<| .first 15 [18,19,20,21,22] [14,16,17]<| .first 16 [18,19,20,21,22] [14,17]<| .first 17 [18,19,20,21,22] [14]<| .fork 14 (.fork 18 (.first 19 [20,21,22] []<| .first 20 [21,22] []<| .first 21 [22] []<| .fork 22 (.done) (.stop)) (.stop)) (.stop)) (.stop)) (.stop))],shut:=[]}
noncomputable def fc177:FCfg:={par:=[.cst false],inn:=[],out:=[(1,some ([2],[]))],loopK:=[],frz:=[],sch:=[],shut:=[]}
noncomputable def fc178:FCfg:={par:=[.cst false,.cst false,.cst false],inn:=[],out:=[],loopK:=[],frz:=[],sch:=[],shut:=[]}
noncomputable def fc179:FCfg:={par:=[.cst false,.cst false,.cst false,.cst false],inn:=[],out:=[(1,some ([8],[]))],loopK:=[],frz:=[],sch:=[(1,.first 0 (rg [3,4,7,23]) [1,2,4,5,6]<| .first 1 (rg [3,4,7,23]) [2,4,5,6]<| .first 2 (rg [3,4,7,23]) [4,5,6]<| .first 4 (rg [7,23]) [3,5,6]<| .first 5 (rg [7,23]) [3,6]<| .first 6 (rg [7,23]) [3]<| .fork 3 (.fork 7 (.first 8 (rg [9,23]) []<| .first 9 (rg [10,23]) []<| .first 10 (rg [11,23]) []<| .first 11 [14,18,19,20,21,22] [12,13,15,16,17]<| .first 12 [14,18,19,20,21,22] [13,15,16,17]<| .first 13 [14,18,19,20,21,22] [15,16,17]<| .first 15 [18,19,20,21,22] [14,16,17]<| .first 16 [18,19,20,21,22] [14,17]<| .first 17 [18,19,20,21,22] [14]<| .fork 14 (.fork 18 (.first 19 [20,21,22] []<| .first 20 [21,22] []<| .first 21 [22] []<| .fork 22 (.done) (.stop)) (.stop)) (.stop)) (.stop)) (.stop))],shut:=[]}
noncomputable def fc180:FCfg:={par:=[.cst false],inn:=[(7,some ([],[]))],out:=[],loopK:=[(3,([0,3,4],[3]))],frz:=[],sch:=[],shut:=[]}
noncomputable def fc181:FCfg:={par:=[.cst false],inn:=[],out:=[],loopK:=[],frz:=[],sch:=[],shut:=[]}
noncomputable def fc182:FCfg:={par:=[.cst false,.cst false,.cst false],inn:=[(8,some ([],[]))],out:=[(6,some ([0,1,2,7,45],[]))],loopK:=[(2,([0,1,2,7],[]))],frz:=[],sch:=[],shut:=[]}
noncomputable def fc183:FCfg:={par:=[.cst false,.cst false,.cst false],inn:=[(5,some ([0,1,2,7,8,9],[])),(9,some ([8],[]))],out:=[(6,some ([0,1,2,7,8,9,10],[])),(7,some ([0,1,2,7,8,9,10,39],[]))],loopK:=[(4,([0,1,2,7,8,9],[]))],frz:=[],sch:=[(6,.first 0 [6,14,15] (rg [1,6,7,14])<| .first 1 [3,5,6,14,15] [2,4,7,8,9,10,11,12,13]<| .first 2 [3,5,6,14,15] (rg [4,5,7,14])<| .first 3 [5,6,14,15] (rg [4,5,7,14])<| .first 4 [5,6,14,15] (rg [7,14])<| .first 5 [6,14,15] (rg [7,14])<| .first 6 [14,15] (rg [7,14])<| .first 7 [13,14,15] [8,9,10,11,12]<| .first 8 [10,12,13,14,15] [9,11]<| .first 9 [10,12,13,14,15] [11]<| .first 10 [12,13,14,15] [11]<| .first 11 [12,13,14,15] []<| .first 12 [13,14,15] []<| .first 13 [14,15] []<| .fork 14 (.fork 15 (.done) (.stop)) (.stop))],shut:=[]}
noncomputable def fc184:FCfg:={par:=[.cst false,.cst false],inn:=[(7,some ([],[]))],out:=[],loopK:=[(2,([0,1,7,8],[]))],frz:=[],sch:=[],shut:=[]}
noncomputable def fc185:FCfg:={par:=[.cst false],inn:=[],out:=[],loopK:=[],frz:=[],sch:=[],shut:=[]}
noncomputable def fc201:FCfg:={par:=[.cst false,.cst false,.cst false],inn:=[],out:=[],loopK:=[],frz:=[],sch:=[],shut:=[]}
noncomputable def fc202:FCfg:={par:=[.cut 3,.cut 3],inn:=[],out:=[(1,some ([4],[]))],loopK:=[],frz:=[],sch:=[(1,.first 0 [1,2,3,8,18,27,28,29,30] (rg [4,8,9,18,19,27])<| .first 1 [2,3,8,18,27,28,29,30] (rg [4,8,9,18,19,27])<| .first 2 [3,8,18,27,28,29,30] (rg [4,8,9,18,19,27])<| .first 3 [8,18,27,28,29,30] (rg [4,8,9,18,19,27])<| .first 4 [5,6,7,8,18,27,28,29,30] (rg [9,18,19,27])<| .first 5 [6,7,8,18,27,28,29,30] (rg [9,18,19,27])<| .first 6 [7,8,18,27,28,29,30] (rg [9,18,19,27])<| .first 7 [8,18,27,28,29,30] (rg [9,18,19,27])<| .first 8 [18,27,28,29,30] (rg [9,18,19,27])<| .first 9 [10,11,12,17,18,27,28,29,30] (rg [13,17,19,27])<| .first 10 [11,12,17,18,27,28,29,30] (rg [13,17,19,27])<| .first 11 [12,17,18,27,28,29,30] (rg [13,17,19,27])<| .first 12 [17,18,27,28,29,30] (rg [13,17,19,27])<| .first 13 (rg [14,19,27,31]) (rg [19,27])<| .first 14 (rg [15,19,27,31]) (rg [19,27])<| .first 15 [16,17,18,27,28,29,30] (rg [19,27])<| .first 16 [17,18,27,28,29,30] (rg [19,27])<| .first 17 [18,27,28,29,30] (rg [19,27])<| .first 19 [20,21,22,27,28,29,30] [18,23,24,25,26]<| .first 20 [21,22,27,28,29,30] [18,23,24,25,26]<| .first 21 [22,27,28,29,30] [18,23,24,25,26]<| .first 22 [27,28,29,30] [18,23,24,25,26]<| .first 23 (rg [24,31]) [18]<| .first 24 (rg [25,31]) [18]<| .first 25 [26,27,28,29,30] [18]<| .first 26 [27,28,29,30] [18]<| .fork 18 (.fork 27 (.first 28 [29,30] []<| .first 29 [30] []<| .fork 30 (.done) (.stop)) (.stop)) (.stop))],shut:=[]}
noncomputable def fc203:FCfg:={par:=[.cst false],inn:=[],out:=[],loopK:=[],frz:=[],sch:=[],shut:=[]}
noncomputable def fc212:FCfg:={par:=[.cst false,.cst false],inn:=[],out:=[],loopK:=[],frz:=[],sch:=[],shut:=[]}
noncomputable def fcs:List (Nat×FCfg):=[(8,fc8),(24,fc24),(25,fc25),(37,fc37),(39,fc39),(40,fc40),(41,fc41),(42,fc42),(43,fc43),(44,fc44),(45,fc45),(46,fc46),(47,fc47),(48,fc48),(51,fc51),(54,fc54),(63,fc63),(67,fc67),(68,fc68),(69,fc69),(71,fc71),(79,fc79),(80,fc80),(82,fc82),(83,fc83),(85,fc85),(86,fc86),(87,fc87),(88,fc88),(89,fc89),(90,fc90),(91,fc91),(92,fc92),(93,fc93),(94,fc94),(97,fc97),(98,fc98),(99,fc99),(100,fc100),(101,fc101),(105,fc105),(106,fc106),(107,fc107),(108,fc108),(113,fc113),(114,fc114),(115,fc115),(116,fc116),(120,fc120),(121,fc121),(122,fc122),(123,fc123),(124,fc124),(130,fc130),(134,fc134),(135,fc135),(138,fc138),(139,fc139),(140,fc140),(141,fc141),(142,fc142),(143,fc143),(144,fc144),(145,fc145),(146,fc146),(147,fc147),(149,fc149),(150,fc150),(151,fc151),(152,fc152),(153,fc153),(155,fc155),(156,fc156),(158,fc158),(159,fc159),(160,fc160),(161,fc161),(162,fc162),(163,fc163),(164,fc164),(166,fc166),(167,fc167),(168,fc168),(171,fc171),(174,fc174),(175,fc175),(176,fc176),(177,fc177),(178,fc178),(179,fc179),(180,fc180),(181,fc181),(182,fc182),(183,fc183),(184,fc184),(185,fc185),(201,fc201),(202,fc202),(203,fc203),(212,fc212)]
noncomputable def ons:List (Nat×Bool):=[(8,true),(24,true),(25,true),(37,true),(39,true),(40,true),(41,true),(42,true),(43,true),(44,true),(45,true),(46,true),(47,true),(48,true),(51,true),(54,true),(63,true),(67,true),(68,true),(69,true),(71,true),(79,true),(80,true),(82,true),(83,true),(85,true),(86,true),(87,true),(88,true),(89,true),(90,true),(91,true),(92,true),(93,true),(94,true),(97,true),(98,true),(99,true),(100,true),(101,true),(105,true),(106,true),(107,true),(108,true),(113,true),(114,true),(115,true),(116,true),(120,true),(121,true),(122,true),(123,true),(124,true),(130,true),(134,true),(135,true),(138,true),(139,true),(140,true),(141,true),(142,true),(143,true),(144,true),(145,true),(146,true),(147,true),(149,true),(150,true),(151,true),(152,true),(153,true),(155,true),(156,true),(158,true),(159,true),(160,true),(161,true),(162,true),(163,true),(164,true),(166,true),(167,true),(168,true),(171,true),(174,true),(175,true),(176,true),(177,true),(178,true),(179,true),(180,true),(181,true),(182,true),(183,true),(184,true),(185,true),(201,true),(202,true),(203,true),(212,true)]
noncomputable def cfg:Cfg:=mkCfg ons fcs [(131,some (extCloneN 1 8))] [(61,26)] [] [(39,29),(39,42)] [(24,50)]
theorem c8:cfg.fc 8=fc8:=rfl
instance C8:Cf cfg 8 fc8:=⟨c8⟩
instance Z8:Zf cfg 8:=⟨rfl⟩
theorem z8:(cfg.fc 8).frz=[]:=rfl
theorem c24:cfg.fc 24=fc24:=rfl
instance C24:Cf cfg 24 fc24:=⟨c24⟩
theorem z24:(cfg.fc 24).frz=[8]:=rfl
theorem c25:cfg.fc 25=fc25:=rfl
instance C25:Cf cfg 25 fc25:=⟨c25⟩
theorem z25:(cfg.fc 25).frz=[4]:=rfl
theorem c37:cfg.fc 37=fc37:=rfl
instance C37:Cf cfg 37 fc37:=⟨c37⟩
instance Z37:Zf cfg 37:=⟨rfl⟩
theorem c39:cfg.fc 39=fc39:=rfl
instance C39:Cf cfg 39 fc39:=⟨c39⟩
instance Z39:Zf cfg 39:=⟨rfl⟩
theorem c40:cfg.fc 40=fc40:=rfl
instance C40:Cf cfg 40 fc40:=⟨c40⟩
instance Z40:Zf cfg 40:=⟨rfl⟩
theorem c41:cfg.fc 41=fc41:=rfl
instance C41:Cf cfg 41 fc41:=⟨c41⟩
instance Z41:Zf cfg 41:=⟨rfl⟩
theorem c42:cfg.fc 42=fc42:=rfl
instance C42:Cf cfg 42 fc42:=⟨c42⟩
instance Z42:Zf cfg 42:=⟨rfl⟩
theorem c43:cfg.fc 43=fc43:=rfl
instance C43:Cf cfg 43 fc43:=⟨c43⟩
instance Z43:Zf cfg 43:=⟨rfl⟩
theorem c44:cfg.fc 44=fc44:=rfl
instance C44:Cf cfg 44 fc44:=⟨c44⟩
instance Z44:Zf cfg 44:=⟨rfl⟩
theorem c45:cfg.fc 45=fc45:=rfl
instance C45:Cf cfg 45 fc45:=⟨c45⟩
instance Z45:Zf cfg 45:=⟨rfl⟩
theorem c46:cfg.fc 46=fc46:=rfl
instance C46:Cf cfg 46 fc46:=⟨c46⟩
instance Z46:Zf cfg 46:=⟨rfl⟩
theorem c47:cfg.fc 47=fc47:=rfl
instance C47:Cf cfg 47 fc47:=⟨c47⟩
instance Z47:Zf cfg 47:=⟨rfl⟩
theorem z47:(cfg.fc 47).frz=[]:=rfl
theorem c48:cfg.fc 48=fc48:=rfl
instance C48:Cf cfg 48 fc48:=⟨c48⟩
instance Z48:Zf cfg 48:=⟨rfl⟩
theorem c51:cfg.fc 51=fc51:=rfl
instance C51:Cf cfg 51 fc51:=⟨c51⟩
instance Z51:Zf cfg 51:=⟨rfl⟩
theorem z51:(cfg.fc 51).frz=[]:=rfl
theorem c54:cfg.fc 54=fc54:=rfl
instance C54:Cf cfg 54 fc54:=⟨c54⟩
instance Z54:Zf cfg 54:=⟨rfl⟩
theorem z54:(cfg.fc 54).frz=[]:=rfl
theorem c63:cfg.fc 63=fc63:=rfl
instance C63:Cf cfg 63 fc63:=⟨c63⟩
theorem z63:(cfg.fc 63).frz=[2]:=rfl
theorem c67:cfg.fc 67=fc67:=rfl
instance C67:Cf cfg 67 fc67:=⟨c67⟩
instance Z67:Zf cfg 67:=⟨rfl⟩
theorem c68:cfg.fc 68=fc68:=rfl
instance C68:Cf cfg 68 fc68:=⟨c68⟩
instance Z68:Zf cfg 68:=⟨rfl⟩
theorem z68:(cfg.fc 68).frz=[]:=rfl
theorem c69:cfg.fc 69=fc69:=rfl
instance C69:Cf cfg 69 fc69:=⟨c69⟩
instance Z69:Zf cfg 69:=⟨rfl⟩
theorem c71:cfg.fc 71=fc71:=rfl
instance C71:Cf cfg 71 fc71:=⟨c71⟩
instance Z71:Zf cfg 71:=⟨rfl⟩
theorem z71:(cfg.fc 71).frz=[]:=rfl
theorem c79:cfg.fc 79=fc79:=rfl
instance C79:Cf cfg 79 fc79:=⟨c79⟩
instance Z79:Zf cfg 79:=⟨rfl⟩
theorem c80:cfg.fc 80=fc80:=rfl
instance C80:Cf cfg 80 fc80:=⟨c80⟩
instance Z80:Zf cfg 80:=⟨rfl⟩
theorem c82:cfg.fc 82=fc82:=rfl
instance C82:Cf cfg 82 fc82:=⟨c82⟩
instance Z82:Zf cfg 82:=⟨rfl⟩
theorem c83:cfg.fc 83=fc83:=rfl
instance C83:Cf cfg 83 fc83:=⟨c83⟩
instance Z83:Zf cfg 83:=⟨rfl⟩
theorem c85:cfg.fc 85=fc85:=rfl
instance C85:Cf cfg 85 fc85:=⟨c85⟩
instance Z85:Zf cfg 85:=⟨rfl⟩
theorem c86:cfg.fc 86=fc86:=rfl
instance C86:Cf cfg 86 fc86:=⟨c86⟩
instance Z86:Zf cfg 86:=⟨rfl⟩
theorem c87:cfg.fc 87=fc87:=rfl
instance C87:Cf cfg 87 fc87:=⟨c87⟩
instance Z87:Zf cfg 87:=⟨rfl⟩
theorem z87:(cfg.fc 87).frz=[]:=rfl
theorem c88:cfg.fc 88=fc88:=rfl
instance C88:Cf cfg 88 fc88:=⟨c88⟩
instance Z88:Zf cfg 88:=⟨rfl⟩
theorem z88:(cfg.fc 88).frz=[]:=rfl
theorem c89:cfg.fc 89=fc89:=rfl
instance C89:Cf cfg 89 fc89:=⟨c89⟩
instance Z89:Zf cfg 89:=⟨rfl⟩
theorem c90:cfg.fc 90=fc90:=rfl
instance C90:Cf cfg 90 fc90:=⟨c90⟩
instance Z90:Zf cfg 90:=⟨rfl⟩
theorem c91:cfg.fc 91=fc91:=rfl
instance C91:Cf cfg 91 fc91:=⟨c91⟩
instance Z91:Zf cfg 91:=⟨rfl⟩
theorem c92:cfg.fc 92=fc92:=rfl
instance C92:Cf cfg 92 fc92:=⟨c92⟩
instance Z92:Zf cfg 92:=⟨rfl⟩
theorem c93:cfg.fc 93=fc93:=rfl
instance C93:Cf cfg 93 fc93:=⟨c93⟩
instance Z93:Zf cfg 93:=⟨rfl⟩
theorem c94:cfg.fc 94=fc94:=rfl
instance C94:Cf cfg 94 fc94:=⟨c94⟩
instance Z94:Zf cfg 94:=⟨rfl⟩
theorem c97:cfg.fc 97=fc97:=rfl
instance C97:Cf cfg 97 fc97:=⟨c97⟩
instance Z97:Zf cfg 97:=⟨rfl⟩
theorem c98:cfg.fc 98=fc98:=rfl
instance C98:Cf cfg 98 fc98:=⟨c98⟩
instance Z98:Zf cfg 98:=⟨rfl⟩
theorem z98:(cfg.fc 98).frz=[]:=rfl
theorem c99:cfg.fc 99=fc99:=rfl
instance C99:Cf cfg 99 fc99:=⟨c99⟩
instance Z99:Zf cfg 99:=⟨rfl⟩
theorem c100:cfg.fc 100=fc100:=rfl
instance C100:Cf cfg 100 fc100:=⟨c100⟩
instance Z100:Zf cfg 100:=⟨rfl⟩
theorem z100:(cfg.fc 100).frz=[]:=rfl
theorem c101:cfg.fc 101=fc101:=rfl
instance C101:Cf cfg 101 fc101:=⟨c101⟩
instance Z101:Zf cfg 101:=⟨rfl⟩
theorem z101:(cfg.fc 101).frz=[]:=rfl
theorem c105:cfg.fc 105=fc105:=rfl
instance C105:Cf cfg 105 fc105:=⟨c105⟩
instance Z105:Zf cfg 105:=⟨rfl⟩
theorem c106:cfg.fc 106=fc106:=rfl
instance C106:Cf cfg 106 fc106:=⟨c106⟩
instance Z106:Zf cfg 106:=⟨rfl⟩
theorem c107:cfg.fc 107=fc107:=rfl
instance C107:Cf cfg 107 fc107:=⟨c107⟩
instance Z107:Zf cfg 107:=⟨rfl⟩
theorem c108:cfg.fc 108=fc108:=rfl
instance C108:Cf cfg 108 fc108:=⟨c108⟩
instance Z108:Zf cfg 108:=⟨rfl⟩
theorem z108:(cfg.fc 108).frz=[]:=rfl
theorem c113:cfg.fc 113=fc113:=rfl
instance C113:Cf cfg 113 fc113:=⟨c113⟩
instance Z113:Zf cfg 113:=⟨rfl⟩
theorem c114:cfg.fc 114=fc114:=rfl
instance C114:Cf cfg 114 fc114:=⟨c114⟩
instance Z114:Zf cfg 114:=⟨rfl⟩
theorem c115:cfg.fc 115=fc115:=rfl
instance C115:Cf cfg 115 fc115:=⟨c115⟩
instance Z115:Zf cfg 115:=⟨rfl⟩
theorem z115:(cfg.fc 115).frz=[]:=rfl
theorem c116:cfg.fc 116=fc116:=rfl
instance C116:Cf cfg 116 fc116:=⟨c116⟩
instance Z116:Zf cfg 116:=⟨rfl⟩
theorem c120:cfg.fc 120=fc120:=rfl
instance C120:Cf cfg 120 fc120:=⟨c120⟩
instance Z120:Zf cfg 120:=⟨rfl⟩
theorem c121:cfg.fc 121=fc121:=rfl
instance C121:Cf cfg 121 fc121:=⟨c121⟩
instance Z121:Zf cfg 121:=⟨rfl⟩
theorem z121:(cfg.fc 121).frz=[]:=rfl
theorem c122:cfg.fc 122=fc122:=rfl
instance C122:Cf cfg 122 fc122:=⟨c122⟩
instance Z122:Zf cfg 122:=⟨rfl⟩
theorem c123:cfg.fc 123=fc123:=rfl
instance C123:Cf cfg 123 fc123:=⟨c123⟩
instance Z123:Zf cfg 123:=⟨rfl⟩
theorem c124:cfg.fc 124=fc124:=rfl
instance C124:Cf cfg 124 fc124:=⟨c124⟩
instance Z124:Zf cfg 124:=⟨rfl⟩
theorem z124:(cfg.fc 124).frz=[]:=rfl
theorem c130:cfg.fc 130=fc130:=rfl
instance C130:Cf cfg 130 fc130:=⟨c130⟩
instance Z130:Zf cfg 130:=⟨rfl⟩
theorem c134:cfg.fc 134=fc134:=rfl
instance C134:Cf cfg 134 fc134:=⟨c134⟩
instance Z134:Zf cfg 134:=⟨rfl⟩
theorem c135:cfg.fc 135=fc135:=rfl
instance C135:Cf cfg 135 fc135:=⟨c135⟩
instance Z135:Zf cfg 135:=⟨rfl⟩
theorem c138:cfg.fc 138=fc138:=rfl
instance C138:Cf cfg 138 fc138:=⟨c138⟩
instance Z138:Zf cfg 138:=⟨rfl⟩
theorem c139:cfg.fc 139=fc139:=rfl
instance C139:Cf cfg 139 fc139:=⟨c139⟩
instance Z139:Zf cfg 139:=⟨rfl⟩
theorem c140:cfg.fc 140=fc140:=rfl
instance C140:Cf cfg 140 fc140:=⟨c140⟩
instance Z140:Zf cfg 140:=⟨rfl⟩
theorem c141:cfg.fc 141=fc141:=rfl
instance C141:Cf cfg 141 fc141:=⟨c141⟩
instance Z141:Zf cfg 141:=⟨rfl⟩
theorem c142:cfg.fc 142=fc142:=rfl
instance C142:Cf cfg 142 fc142:=⟨c142⟩
instance Z142:Zf cfg 142:=⟨rfl⟩
theorem c143:cfg.fc 143=fc143:=rfl
instance C143:Cf cfg 143 fc143:=⟨c143⟩
instance Z143:Zf cfg 143:=⟨rfl⟩
theorem c144:cfg.fc 144=fc144:=rfl
instance C144:Cf cfg 144 fc144:=⟨c144⟩
instance Z144:Zf cfg 144:=⟨rfl⟩
theorem c145:cfg.fc 145=fc145:=rfl
instance C145:Cf cfg 145 fc145:=⟨c145⟩
instance Z145:Zf cfg 145:=⟨rfl⟩
theorem z145:(cfg.fc 145).frz=[]:=rfl
theorem c146:cfg.fc 146=fc146:=rfl
instance C146:Cf cfg 146 fc146:=⟨c146⟩
instance Z146:Zf cfg 146:=⟨rfl⟩
theorem c147:cfg.fc 147=fc147:=rfl
instance C147:Cf cfg 147 fc147:=⟨c147⟩
instance Z147:Zf cfg 147:=⟨rfl⟩
theorem z147:(cfg.fc 147).frz=[]:=rfl
theorem c149:cfg.fc 149=fc149:=rfl
instance C149:Cf cfg 149 fc149:=⟨c149⟩
instance Z149:Zf cfg 149:=⟨rfl⟩
theorem c150:cfg.fc 150=fc150:=rfl
instance C150:Cf cfg 150 fc150:=⟨c150⟩
instance Z150:Zf cfg 150:=⟨rfl⟩
theorem c151:cfg.fc 151=fc151:=rfl
instance C151:Cf cfg 151 fc151:=⟨c151⟩
instance Z151:Zf cfg 151:=⟨rfl⟩
theorem c152:cfg.fc 152=fc152:=rfl
instance C152:Cf cfg 152 fc152:=⟨c152⟩
instance Z152:Zf cfg 152:=⟨rfl⟩
theorem c153:cfg.fc 153=fc153:=rfl
instance C153:Cf cfg 153 fc153:=⟨c153⟩
instance Z153:Zf cfg 153:=⟨rfl⟩
theorem c155:cfg.fc 155=fc155:=rfl
instance C155:Cf cfg 155 fc155:=⟨c155⟩
instance Z155:Zf cfg 155:=⟨rfl⟩
theorem c156:cfg.fc 156=fc156:=rfl
instance C156:Cf cfg 156 fc156:=⟨c156⟩
instance Z156:Zf cfg 156:=⟨rfl⟩
theorem c158:cfg.fc 158=fc158:=rfl
instance C158:Cf cfg 158 fc158:=⟨c158⟩
instance Z158:Zf cfg 158:=⟨rfl⟩
theorem c159:cfg.fc 159=fc159:=rfl
instance C159:Cf cfg 159 fc159:=⟨c159⟩
instance Z159:Zf cfg 159:=⟨rfl⟩
theorem c160:cfg.fc 160=fc160:=rfl
instance C160:Cf cfg 160 fc160:=⟨c160⟩
instance Z160:Zf cfg 160:=⟨rfl⟩
theorem c161:cfg.fc 161=fc161:=rfl
instance C161:Cf cfg 161 fc161:=⟨c161⟩
instance Z161:Zf cfg 161:=⟨rfl⟩
theorem c162:cfg.fc 162=fc162:=rfl
instance C162:Cf cfg 162 fc162:=⟨c162⟩
instance Z162:Zf cfg 162:=⟨rfl⟩
theorem c163:cfg.fc 163=fc163:=rfl
instance C163:Cf cfg 163 fc163:=⟨c163⟩
instance Z163:Zf cfg 163:=⟨rfl⟩
theorem z163:(cfg.fc 163).frz=[]:=rfl
theorem c164:cfg.fc 164=fc164:=rfl
instance C164:Cf cfg 164 fc164:=⟨c164⟩
instance Z164:Zf cfg 164:=⟨rfl⟩
theorem z164:(cfg.fc 164).frz=[]:=rfl
theorem c166:cfg.fc 166=fc166:=rfl
instance C166:Cf cfg 166 fc166:=⟨c166⟩
instance Z166:Zf cfg 166:=⟨rfl⟩
theorem c167:cfg.fc 167=fc167:=rfl
instance C167:Cf cfg 167 fc167:=⟨c167⟩
instance Z167:Zf cfg 167:=⟨rfl⟩
theorem c168:cfg.fc 168=fc168:=rfl
instance C168:Cf cfg 168 fc168:=⟨c168⟩
instance Z168:Zf cfg 168:=⟨rfl⟩
theorem c171:cfg.fc 171=fc171:=rfl
instance C171:Cf cfg 171 fc171:=⟨c171⟩
instance Z171:Zf cfg 171:=⟨rfl⟩
theorem c174:cfg.fc 174=fc174:=rfl
instance C174:Cf cfg 174 fc174:=⟨c174⟩
instance Z174:Zf cfg 174:=⟨rfl⟩
theorem c175:cfg.fc 175=fc175:=rfl
instance C175:Cf cfg 175 fc175:=⟨c175⟩
instance Z175:Zf cfg 175:=⟨rfl⟩
theorem c176:cfg.fc 176=fc176:=rfl
instance C176:Cf cfg 176 fc176:=⟨c176⟩
instance Z176:Zf cfg 176:=⟨rfl⟩
theorem z176:(cfg.fc 176).frz=[]:=rfl
theorem c177:cfg.fc 177=fc177:=rfl
instance C177:Cf cfg 177 fc177:=⟨c177⟩
instance Z177:Zf cfg 177:=⟨rfl⟩
theorem c178:cfg.fc 178=fc178:=rfl
instance C178:Cf cfg 178 fc178:=⟨c178⟩
instance Z178:Zf cfg 178:=⟨rfl⟩
theorem c179:cfg.fc 179=fc179:=rfl
instance C179:Cf cfg 179 fc179:=⟨c179⟩
instance Z179:Zf cfg 179:=⟨rfl⟩
theorem z179:(cfg.fc 179).frz=[]:=rfl
theorem c180:cfg.fc 180=fc180:=rfl
instance C180:Cf cfg 180 fc180:=⟨c180⟩
instance Z180:Zf cfg 180:=⟨rfl⟩
theorem c181:cfg.fc 181=fc181:=rfl
instance C181:Cf cfg 181 fc181:=⟨c181⟩
instance Z181:Zf cfg 181:=⟨rfl⟩
theorem c182:cfg.fc 182=fc182:=rfl
instance C182:Cf cfg 182 fc182:=⟨c182⟩
instance Z182:Zf cfg 182:=⟨rfl⟩
theorem c183:cfg.fc 183=fc183:=rfl
instance C183:Cf cfg 183 fc183:=⟨c183⟩
instance Z183:Zf cfg 183:=⟨rfl⟩
theorem z183:(cfg.fc 183).frz=[]:=rfl
theorem c184:cfg.fc 184=fc184:=rfl
instance C184:Cf cfg 184 fc184:=⟨c184⟩
instance Z184:Zf cfg 184:=⟨rfl⟩
theorem c185:cfg.fc 185=fc185:=rfl
instance C185:Cf cfg 185 fc185:=⟨c185⟩
instance Z185:Zf cfg 185:=⟨rfl⟩
theorem c201:cfg.fc 201=fc201:=rfl
instance C201:Cf cfg 201 fc201:=⟨c201⟩
instance Z201:Zf cfg 201:=⟨rfl⟩
theorem c202:cfg.fc 202=fc202:=rfl
instance C202:Cf cfg 202 fc202:=⟨c202⟩
instance Z202:Zf cfg 202:=⟨rfl⟩
theorem z202:(cfg.fc 202).frz=[]:=rfl
theorem c203:cfg.fc 203=fc203:=rfl
instance C203:Cf cfg 203 fc203:=⟨c203⟩
instance Z203:Zf cfg 203:=⟨rfl⟩
theorem c212:cfg.fc 212=fc212:=rfl
instance C212:Cf cfg 212 fc212:=⟨c212⟩
instance Z212:Zf cfg 212:=⟨rfl⟩
noncomputable abbrev Pg:=Try.prog
theorem bF105:buildF Pg 105=some ([.nil,.nil,z0,z0,z0,.nil,.im 0 (.sc (.bool false))],[(0,1),(1,1),(2,1),(3,1),(4,1),(5,1),(6,1)]):=kr
theorem bF110:buildF Pg 110=some ([.nil,z0,.nil,z0,.nil,.im 0 (.sc (.bool false)),.nil,z0,z0,z0],[(0,1),(1,1),(2,1),(3,1),(4,1),(5,1),(6,1),(7,1),(8,1),(9,1)]):=kr
theorem bF165:buildF Pg 165=some ([z0,z0],[(0,1),(1,1)]):=kr
theorem eF162:elemSz Pg 162=some (165,2):=kr
theorem eF195:elemSz Pg 195=some (9,1):=kr
theorem eF23:elemSz Pg 23=some (155,2):=kr
theorem eF24:elemSz Pg 24=some (148,2):=kr
theorem eF28:elemSz Pg 28=some (2,1):=kr
theorem eF42:elemSz Pg 42=some (123,3):=kr
theorem eF85:elemSz Pg 85=some (28,1):=kr
theorem fF105_0:fieldF Pg 105 0=some 0:=kr
theorem fF105_1:fieldF Pg 105 1=some 1:=kr
theorem fF105_2:fieldF Pg 105 2=some 2:=kr
theorem fF105_3:fieldF Pg 105 3=some 3:=kr
theorem fF105_4:fieldF Pg 105 4=some 4:=kr
theorem fF105_5:fieldF Pg 105 5=some 5:=kr
theorem fF105_6:fieldF Pg 105 6=some 6:=kr
theorem fF110_0:fieldF Pg 110 0=some 0:=kr
theorem fF110_1:fieldF Pg 110 1=some 1:=kr
theorem fF110_2:fieldF Pg 110 2=some 2:=kr
theorem fF110_3:fieldF Pg 110 3=some 3:=kr
theorem fF110_4:fieldF Pg 110 4=some 4:=kr
theorem fF110_5:fieldF Pg 110 5=some 5:=kr
theorem fF110_6:fieldF Pg 110 6=some 6:=kr
theorem fF110_7:fieldF Pg 110 7=some 7:=kr
theorem fF110_8:fieldF Pg 110 8=some 8:=kr
theorem fF110_9:fieldF Pg 110 9=some 9:=kr
theorem fF123_0:fieldF Pg 123 0=some 0:=kr
theorem fF123_1:fieldF Pg 123 1=some 1:=kr
theorem fF123_2:fieldF Pg 123 2=some 2:=kr
theorem fF139_0:fieldF Pg 139 0=some 0:=kr
theorem fF139_1:fieldF Pg 139 1=some 1:=kr
theorem fF139_2:fieldF Pg 139 2=some 2:=kr
theorem fF148_0:fieldF Pg 148 0=some 0:=kr
theorem fF148_1:fieldF Pg 148 1=some 1:=kr
theorem fF155_0:fieldF Pg 155 0=some 0:=kr
theorem fF155_1:fieldF Pg 155 1=some 1:=kr
theorem fF176_0:fieldF Pg 176 0=some 0:=kr
theorem fF176_1:fieldF Pg 176 1=some 1:=kr
theorem fF179_0:fieldF Pg 179 0=some 0:=kr
theorem fF179_1:fieldF Pg 179 1=some 1:=kr
theorem fF26_0:fieldF Pg 26 0=some 0:=kr
theorem fF26_1:fieldF Pg 26 1=some 1:=kr
theorem fF26_2:fieldF Pg 26 2=some 2:=kr
theorem fF26_3:fieldF Pg 26 3=some 3:=kr
theorem fF63_0:fieldF Pg 63 0=some 0:=kr
theorem fF63_1:fieldF Pg 63 1=some 1:=kr
theorem fF63_2:fieldF Pg 63 2=some 2:=kr
theorem fF63_3:fieldF Pg 63 3=some 3:=kr
theorem kF100_81_28:callK Pg cfg 100 0 [81,28]=[(.cut 4,[none]),(.cst false,[some 1])]:=kr
theorem kF101_23:callK Pg cfg 101 0 [23]=[(.cst false,[some 2])]:=kr
theorem kF105_23_155:callK Pg cfg 105 0 [23,155]=[(.cst false,[some 2]),(.cst false,[none,none])]:=kr
theorem kF106_9:callK Pg cfg 106 0 [9]=[(.cst false,[none])]:=kr
theorem kF107_23_28:callK Pg cfg 107 0 [23,28]=[(.cst false,[some 2]),(.cst false,[some 1])]:=kr
theorem kF108_23:callK Pg cfg 108 0 [23]=[(.cst false,[some 2])]:=kr
theorem kF113_28:callK Pg cfg 113 0 [28]=[(.cst false,[some 1])]:=kr
theorem kF114_162_167:callK Pg cfg 114 0 [162,167]=[(.cst false,[some 2]),(.cst false,[none])]:=kr
theorem kF115_165_0_0:callK Pg cfg 115 0 [165,0,0]=[(.cst false,[none,none]),(.cst false,[none]),(.cst false,[none])]:=kr
theorem kF116_162_165:callK Pg cfg 116 0 [162,165]=[(.cst false,[some 2]),(.cst false,[none,none])]:=kr
theorem kF120_42:callK Pg cfg 120 0 [42]=[(.cst false,[some 3])]:=kr
theorem kF121_101_28:callK Pg cfg 121 0 [101,28]=[(.ptr [.imm,.imm,.imm,.imm,.imm,.sh,.imm],[none]),(.mv,[some 1])]:=kr
theorem kF122_42:callK Pg cfg 122 0 [42]=[(.cst false,[some 3])]:=kr
theorem kF123_81:callK Pg cfg 123 0 [81]=[(.cut 4,[none])]:=kr
theorem kF124_106:callK Pg cfg 124 0 [106]=[(.ptr [.imm,.imm,.imm,.imm,.sh,.imm,.sh,.imm,.imm,.imm],[none])]:=kr
theorem kF130_42:callK Pg cfg 130 0 [42]=[(.cst false,[some 3])]:=kr
theorem kF131_28:callK Pg cfg 131 0 [28]=[(.cst false,[some 1])]:=kr
theorem kF134_2_2:callK Pg cfg 134 0 [2,2]=[(.cst false,[none]),(.cst false,[none])]:=kr
theorem kF135_176_3:callK Pg cfg 135 0 [176,3]=[(.cst false,[none,some 1]),(.cst false,[none])]:=kr
theorem kF138_179:callK Pg cfg 138 0 [179]=[(.cst false,[none,none])]:=kr
theorem kF139_176:callK Pg cfg 139 0 [176]=[(.cst false,[none,some 1])]:=kr
theorem kF140_155_155:callK Pg cfg 140 0 [155,155]=[(.cst false,[none,none]),(.cst false,[none,none])]:=kr
theorem kF141_148_148:callK Pg cfg 141 0 [148,148]=[(.cst false,[none,some 1]),(.cst false,[none,some 1])]:=kr
theorem kF142_5:callK Pg cfg 142 0 [5]=[(.cst false,[none])]:=kr
theorem kF143_5:callK Pg cfg 143 0 [5]=[(.cst false,[none])]:=kr
theorem kF144_155:callK Pg cfg 144 0 [155]=[(.cst false,[none,none])]:=kr
theorem kF145_155_155_155:callK Pg cfg 145 0 [155,155,155]=[(.cst false,[none,none]),(.cst false,[none,none]),(.cst false,[none,none])]:=kr
theorem kF146_155_155_155_155:callK Pg cfg 146 0 [155,155,155,155]=[(.cst false,[none,none]),(.cst false,[none,none]),(.cst false,[none,none]),(.cst false,[none,none])]:=kr
theorem kF147_23:callK Pg cfg 147 0 [23]=[(.cst false,[some 2])]:=kr
theorem kF149_23_155:callK Pg cfg 149 0 [23,155]=[(.cst false,[some 2]),(.cst false,[none,none])]:=kr
theorem kF150_23:callK Pg cfg 150 0 [23]=[(.cst false,[some 2])]:=kr
theorem kF151_155_155_155:callK Pg cfg 151 0 [155,155,155]=[(.cst false,[none,none]),(.cst false,[none,none]),(.cst false,[none,none])]:=kr
theorem kF152_155_155_155_155:callK Pg cfg 152 0 [155,155,155,155]=[(.cst false,[none,none]),(.cst false,[none,none]),(.cst false,[none,none]),(.cst false,[none,none])]:=kr
theorem kF153_23:callK Pg cfg 153 0 [23]=[(.cst false,[some 2])]:=kr
theorem kF155_162_167:callK Pg cfg 155 0 [162,167]=[(.cst false,[some 2]),(.cst false,[none])]:=kr
theorem kF156_162_165:callK Pg cfg 156 0 [162,165]=[(.cst false,[some 2]),(.cst false,[none,none])]:=kr
theorem kF158_:callK Pg cfg 158 0 []=[]:=kr
theorem kF159_:callK Pg cfg 159 0 []=[]:=kr
theorem kF160_2_2:callK Pg cfg 160 0 [2,2]=[(.cst false,[none]),(.cst false,[none])]:=kr
theorem kF161_2_2:callK Pg cfg 161 0 [2,2]=[(.cst false,[none]),(.cst false,[none])]:=kr
theorem kF162_199:callK Pg cfg 162 0 [199]=[(.cut 3,[none])]:=kr
theorem kF163_81_2:callK Pg cfg 163 0 [81,2]=[(.cut 4,[none]),(.cst false,[none])]:=kr
theorem kF164_106:callK Pg cfg 164 0 [106]=[(.cut 10,[none])]:=kr
theorem kF166_42_203:callK Pg cfg 166 0 [42,203]=[(.cst false,[some 3]),(.cst false,[none])]:=kr
theorem kF167_123:callK Pg cfg 167 0 [123]=[(.cst false,[none,none,none])]:=kr
theorem kF168_123:callK Pg cfg 168 0 [123]=[(.cst false,[none,none,none])]:=kr
theorem kF171_28_3:callK Pg cfg 171 0 [28,3]=[(.cst false,[some 1]),(.cst false,[none])]:=kr
theorem kF174_28:callK Pg cfg 174 0 [28]=[(.cst false,[some 1])]:=kr
theorem kF175_155_155_155:callK Pg cfg 175 0 [155,155,155]=[(.cst false,[none,none]),(.cst false,[none,none]),(.cst false,[none,none])]:=kr
theorem kF176_155_155_155_155:callK Pg cfg 176 0 [155,155,155,155]=[(.cst false,[none,none]),(.cst false,[none,none]),(.cst false,[none,none]),(.cst false,[none,none])]:=kr
theorem kF177_155:callK Pg cfg 177 0 [155]=[(.cst false,[none,none])]:=kr
theorem kF178_155_155_155:callK Pg cfg 178 0 [155,155,155]=[(.cst false,[none,none]),(.cst false,[none,none]),(.cst false,[none,none])]:=kr
theorem kF179_155_155_155_155:callK Pg cfg 179 0 [155,155,155,155]=[(.cst false,[none,none]),(.cst false,[none,none]),(.cst false,[none,none]),(.cst false,[none,none])]:=kr
theorem kF180_9:callK Pg cfg 180 0 [9]=[(.cst false,[none])]:=kr
theorem kF181_2:callK Pg cfg 181 0 [2]=[(.cst false,[none])]:=kr
theorem kF182_28_2_2:callK Pg cfg 182 0 [28,2,2]=[(.cst false,[some 1]),(.cst false,[none]),(.cst false,[none])]:=kr
theorem kF183_42_2_2:callK Pg cfg 183 0 [42,2,2]=[(.cst false,[some 3]),(.cst false,[none]),(.cst false,[none])]:=kr
theorem kF184_42_203:callK Pg cfg 184 0 [42,203]=[(.cst false,[some 3]),(.cst false,[none])]:=kr
theorem kF185_9:callK Pg cfg 185 0 [9]=[(.cst false,[none])]:=kr
theorem kF201_155_155_155:callK Pg cfg 201 0 [155,155,155]=[(.cst false,[none,none]),(.cst false,[none,none]),(.cst false,[none,none])]:=kr
theorem kF202_199_199:callK Pg cfg 202 0 [199,199]=[(.cut 3,[none]),(.cut 3,[none])]:=kr
theorem kF203_9:callK Pg cfg 203 0 [9]=[(.cst false,[none])]:=kr
theorem kF212_2_2:callK Pg cfg 212 0 [2,2]=[(.cst false,[none]),(.cst false,[none])]:=kr
theorem kF24_26_42_2_2:callK Pg cfg 24 0 [26,42,2,2]=[(.cst false,[none,none,some 2,some 2]),(.cst false,[some 3]),(.cst false,[none]),(.cst false,[none])]:=kr
theorem kF25_26_42_2_2:callK Pg cfg 25 0 [26,42,2,2]=[(.cst false,[none,none,some 2,some 2]),(.cst false,[some 3]),(.cst false,[none]),(.cst false,[none])]:=kr
theorem kF37_63_3:callK Pg cfg 37 0 [63,3]=[(.cst false,[none,none,some 2,some 2]),(.cst false,[none])]:=kr
theorem kF39_63:callK Pg cfg 39 0 [63]=[(.cst false,[none,none,some 2,some 2])]:=kr
theorem kF40_28_28:callK Pg cfg 40 0 [28,28]=[(.cst false,[some 1]),(.cst false,[some 1])]:=kr
theorem kF41_26_26:callK Pg cfg 41 0 [26,26]=[(.cst false,[none,none,some 2,some 2]),(.cst false,[none,none,some 2,some 2])]:=kr
theorem kF42_26_3:callK Pg cfg 42 0 [26,3]=[(.ws,[none,none,some 2,some 2]),(.cst false,[none])]:=kr
theorem kF43_28_3:callK Pg cfg 43 0 [28,3]=[(.row,[some 1]),(.cst false,[none])]:=kr
theorem kF44_28_3:callK Pg cfg 44 0 [28,3]=[(.cst false,[some 1]),(.cst false,[none])]:=kr
theorem kF45_71_3:callK Pg cfg 45 0 [71,3]=[(.cst false,[some 3]),(.cst false,[none])]:=kr
theorem kF46_71:callK Pg cfg 46 0 [71]=[(.cst false,[some 3])]:=kr
theorem kF47_42_42:callK Pg cfg 47 0 [42,42]=[(.cst false,[some 3]),(.cst false,[some 3])]:=kr
theorem kF48_42_3:callK Pg cfg 48 0 [42,3]=[(.row,[some 3]),(.cst false,[none])]:=kr
theorem kF51_81:callK Pg cfg 51 0 [81]=[(.cut 4,[none])]:=kr
theorem kF54_26:callK Pg cfg 54 0 [26]=[(.cst false,[none,none,some 2,some 2])]:=kr
theorem kF63_26:callK Pg cfg 63 0 [26]=[(.cst false,[none,none,some 2,some 2])]:=kr
theorem kF67_26_42_2_2_4:callK Pg cfg 67 0 [26,42,2,2,4]=[(.cst false,[none,none,some 2,some 2]),(.cst false,[some 3]),(.cst false,[none]),(.cst false,[none]),(.cst false,[none])]:=kr
theorem kF68_81_42_2_2_4:callK Pg cfg 68 0 [81,42,2,2,4]=[(.cut 4,[none]),(.cst false,[some 3]),(.cst false,[none]),(.cst false,[none]),(.cst false,[none])]:=kr
theorem kF69_28:callK Pg cfg 69 0 [28]=[(.cst false,[some 1])]:=kr
theorem kF71_42:callK Pg cfg 71 0 [42]=[(.cst false,[some 3])]:=kr
theorem kF79_2_2_2:callK Pg cfg 79 0 [2,2,2]=[(.cst false,[none]),(.cst false,[none]),(.cst false,[none])]:=kr
theorem kF80_123_123:callK Pg cfg 80 0 [123,123]=[(.cst false,[none,none,none]),(.cst false,[none,none,none])]:=kr
theorem kF82_60_3:callK Pg cfg 82 0 [60,3]=[(.cst false,[some 2]),(.cst false,[none])]:=kr
theorem kF83_61_3:callK Pg cfg 83 0 [61,3]=[(.cst false,[some 2]),(.cst false,[none])]:=kr
theorem kF85_60:callK Pg cfg 85 0 [60]=[(.cst false,[some 2])]:=kr
theorem kF86_61:callK Pg cfg 86 0 [61]=[(.cst false,[some 2])]:=kr
theorem kF87_23_23:callK Pg cfg 87 0 [23,23]=[(.cst false,[some 2]),(.cst false,[some 2])]:=kr
theorem kF88_24_24:callK Pg cfg 88 0 [24,24]=[(.cst false,[some 2]),(.cst false,[some 2])]:=kr
theorem kF89_23_3:callK Pg cfg 89 0 [23,3]=[(.row,[some 2]),(.cst false,[none])]:=kr
theorem kF90_24_3:callK Pg cfg 90 0 [24,3]=[(.ws,[some 2]),(.cst false,[none])]:=kr
theorem kF91_139_3:callK Pg cfg 91 0 [139,3]=[(.cst false,[none,none,none]),(.cst false,[none])]:=kr
theorem kF92_139:callK Pg cfg 92 0 [139]=[(.cst false,[none,none,none])]:=kr
theorem kF93_123_123:callK Pg cfg 93 0 [123,123]=[(.cst false,[none,none,none]),(.cst false,[none,none,none])]:=kr
theorem kF94_3:callK Pg cfg 94 0 [3]=[(.cst false,[none])]:=kr
theorem kF97_2_2_2:callK Pg cfg 97 0 [2,2,2]=[(.cst false,[none]),(.cst false,[none]),(.cst false,[none])]:=kr
theorem kF98_81:callK Pg cfg 98 0 [81]=[(.cut 4,[none])]:=kr
theorem kF99_9:callK Pg cfg 99 0 [9]=[(.cst false,[none])]:=kr
theorem qEF155:∀(a0:Int) (a1:Int) (b0:Int) (b1:Int),binAgg Pg 155 .eql [.int .i64 a0,.int .i64 a1] [.int .i64 b0,.int .i64 b1]=some (.bool ((a0==b0)&&(a1==b1))):=by intros;kernel_rfl
theorem qEF165:∀(a0:Int) (a1:Int) (b0:Int) (b1:Int),binAgg Pg 165 .eql [.int .i64 a0,.int .i64 a1] [.int .i64 b0,.int .i64 b1]=some (.bool ((a0==b0)&&(a1==b1))):=by intros;kernel_rfl
theorem rF100:resK Pg (Try.f100.results.toList.zip Try.f100.resultTypes.toList)=[(.tmp 4,[some 2],none),(.tmp 5,[none],none)]:=kr
theorem rF101:resK Pg (Try.f101.results.toList.zip Try.f101.resultTypes.toList)=[(.tmp 2,[none],none)]:=kr
theorem rF105:resK Pg (Try.f105.results.toList.zip Try.f105.resultTypes.toList)=[(.tmp 4,[none],none)]:=kr
theorem rF106:resK Pg (Try.f106.results.toList.zip Try.f106.resultTypes.toList)=[(.tmp 2,[none],none)]:=kr
theorem rF107:resK Pg (Try.f107.results.toList.zip Try.f107.resultTypes.toList)=[(.tmp 4,[some 2],none),(.tmp 5,[none],none)]:=kr
theorem rF108:resK Pg (Try.f108.results.toList.zip Try.f108.resultTypes.toList)=[(.tmp 2,[none],none)]:=kr
theorem rF113:resK Pg (Try.f113.results.toList.zip Try.f113.resultTypes.toList)=[(.tmp 2,[some 2],none)]:=kr
theorem rF114:resK Pg (Try.f114.results.toList.zip Try.f114.resultTypes.toList)=[(.tmp 4,[none],none)]:=kr
theorem rF115:resK Pg (Try.f115.results.toList.zip Try.f115.resultTypes.toList)=[(.tmp 4,[none],none)]:=kr
theorem rF116:resK Pg (Try.f116.results.toList.zip Try.f116.resultTypes.toList)=[(.tmp 4,[none],none)]:=kr
theorem rF120:resK Pg (Try.f120.results.toList.zip Try.f120.resultTypes.toList)=[(.tmp 2,[none],none)]:=kr
theorem rF121:resK Pg (Try.f121.results.toList.zip Try.f121.resultTypes.toList)=[(.tmp 4,[none],none)]:=kr
theorem rF122:resK Pg (Try.f122.results.toList.zip Try.f122.resultTypes.toList)=[(.tmp 2,[none],none)]:=kr
theorem rF123:resK Pg (Try.f123.results.toList.zip Try.f123.resultTypes.toList)=[(.tmp 2,[some 1],none)]:=kr
theorem rF124:resK Pg (Try.f124.results.toList.zip Try.f124.resultTypes.toList)=[(.tmp 2,[none],none)]:=kr
theorem rF130:resK Pg (Try.f130.results.toList.zip Try.f130.resultTypes.toList)=[(.tmp 2,[none],none)]:=kr
theorem rF131:resK Pg (Try.f131.results.toList.zip Try.f131.resultTypes.toList)=[(.tmp 2,[some 1],none)]:=kr
theorem rF134:resK Pg (Try.f134.results.toList.zip Try.f134.resultTypes.toList)=[(.tmp 4,[none],none),(.tmp 5,[none],none)]:=kr
theorem rF135:resK Pg (Try.f135.results.toList.zip Try.f135.resultTypes.toList)=[(.tmp 4,[none],none)]:=kr
theorem rF138:resK Pg (Try.f138.results.toList.zip Try.f138.resultTypes.toList)=[(.cell 2 155,[none,none],some (true,2))]:=kr
theorem rF139:resK Pg (Try.f139.results.toList.zip Try.f139.resultTypes.toList)=[(.cell 2 148,[none,some 1],some (true,2))]:=kr
theorem rF140:resK Pg (Try.f140.results.toList.zip Try.f140.resultTypes.toList)=[(.tmp 4,[none],none)]:=kr
theorem rF141:resK Pg (Try.f141.results.toList.zip Try.f141.resultTypes.toList)=[(.tmp 4,[none],none)]:=kr
theorem rF142:resK Pg (Try.f142.results.toList.zip Try.f142.resultTypes.toList)=[(.tmp 2,[none],none)]:=kr
theorem rF143:resK Pg (Try.f143.results.toList.zip Try.f143.resultTypes.toList)=[(.tmp 2,[none],none)]:=kr
theorem rF144:resK Pg (Try.f144.results.toList.zip Try.f144.resultTypes.toList)=[(.tmp 2,[none],none)]:=kr
theorem rF145:resK Pg (Try.f145.results.toList.zip Try.f145.resultTypes.toList)=[(.tmp 6,[none],none)]:=kr
theorem rF146:resK Pg (Try.f146.results.toList.zip Try.f146.resultTypes.toList)=[(.tmp 8,[none],none)]:=kr
theorem rF147:resK Pg (Try.f147.results.toList.zip Try.f147.resultTypes.toList)=[(.tmp 2,[none],none)]:=kr
theorem rF149:resK Pg (Try.f149.results.toList.zip Try.f149.resultTypes.toList)=[(.tmp 4,[none],none)]:=kr
theorem rF150:resK Pg (Try.f150.results.toList.zip Try.f150.resultTypes.toList)=[(.tmp 2,[none],none)]:=kr
theorem rF151:resK Pg (Try.f151.results.toList.zip Try.f151.resultTypes.toList)=[(.tmp 6,[none],none)]:=kr
theorem rF152:resK Pg (Try.f152.results.toList.zip Try.f152.resultTypes.toList)=[(.tmp 8,[none],none)]:=kr
theorem rF153:resK Pg (Try.f153.results.toList.zip Try.f153.resultTypes.toList)=[(.tmp 2,[none],none)]:=kr
theorem rF155:resK Pg (Try.f155.results.toList.zip Try.f155.resultTypes.toList)=[(.tmp 4,[none],none)]:=kr
theorem rF156:resK Pg (Try.f156.results.toList.zip Try.f156.resultTypes.toList)=[(.tmp 4,[none],none)]:=kr
theorem rF158:resK Pg (Try.f158.results.toList.zip Try.f158.resultTypes.toList)=[(.tmp 0,[some 1],none)]:=kr
theorem rF159:resK Pg (Try.f159.results.toList.zip Try.f159.resultTypes.toList)=[(.tmp 0,[some 1],none)]:=kr
theorem rF160:resK Pg (Try.f160.results.toList.zip Try.f160.resultTypes.toList)=[(.tmp 4,[none],none)]:=kr
theorem rF161:resK Pg (Try.f161.results.toList.zip Try.f161.resultTypes.toList)=[(.tmp 4,[none],none)]:=kr
theorem rF162:resK Pg (Try.f162.results.toList.zip Try.f162.resultTypes.toList)=[(.tmp 2,[none],none)]:=kr
theorem rF163:resK Pg (Try.f163.results.toList.zip Try.f163.resultTypes.toList)=[(.tmp 4,[some 1],none)]:=kr
theorem rF164:resK Pg (Try.f164.results.toList.zip Try.f164.resultTypes.toList)=[(.tmp 2,[none],none)]:=kr
theorem rF166:resK Pg (Try.f166.results.toList.zip Try.f166.resultTypes.toList)=[(.tmp 4,[none],none)]:=kr
theorem rF167:resK Pg (Try.f167.results.toList.zip Try.f167.resultTypes.toList)=[(.tmp 2,[none],none)]:=kr
theorem rF168:resK Pg (Try.f168.results.toList.zip Try.f168.resultTypes.toList)=[(.tmp 2,[none],none)]:=kr
theorem rF171:resK Pg (Try.f171.results.toList.zip Try.f171.resultTypes.toList)=[(.tmp 4,[none],none)]:=kr
theorem rF174:resK Pg (Try.f174.results.toList.zip Try.f174.resultTypes.toList)=[(.tmp 2,[some 1],none)]:=kr
theorem rF175:resK Pg (Try.f175.results.toList.zip Try.f175.resultTypes.toList)=[(.tmp 6,[none],none)]:=kr
theorem rF176:resK Pg (Try.f176.results.toList.zip Try.f176.resultTypes.toList)=[(.tmp 8,[none],none)]:=kr
theorem rF177:resK Pg (Try.f177.results.toList.zip Try.f177.resultTypes.toList)=[(.tmp 2,[none],none)]:=kr
theorem rF178:resK Pg (Try.f178.results.toList.zip Try.f178.resultTypes.toList)=[(.tmp 6,[none],none)]:=kr
theorem rF179:resK Pg (Try.f179.results.toList.zip Try.f179.resultTypes.toList)=[(.tmp 8,[none],none)]:=kr
theorem rF180:resK Pg (Try.f180.results.toList.zip Try.f180.resultTypes.toList)=[(.tmp 2,[none],none)]:=kr
theorem rF181:resK Pg (Try.f181.results.toList.zip Try.f181.resultTypes.toList)=[(.tmp 2,[none],none)]:=kr
theorem rF182:resK Pg (Try.f182.results.toList.zip Try.f182.resultTypes.toList)=[(.tmp 6,[none],none)]:=kr
theorem rF183:resK Pg (Try.f183.results.toList.zip Try.f183.resultTypes.toList)=[(.tmp 6,[none],none)]:=kr
theorem rF184:resK Pg (Try.f184.results.toList.zip Try.f184.resultTypes.toList)=[(.tmp 4,[none],none)]:=kr
theorem rF185:resK Pg (Try.f185.results.toList.zip Try.f185.resultTypes.toList)=[(.tmp 2,[none],none),(.tmp 3,[none],none)]:=kr
theorem rF201:resK Pg (Try.f201.results.toList.zip Try.f201.resultTypes.toList)=[(.tmp 6,[none],none)]:=kr
theorem rF202:resK Pg (Try.f202.results.toList.zip Try.f202.resultTypes.toList)=[(.tmp 4,[none],none)]:=kr
theorem rF203:resK Pg (Try.f203.results.toList.zip Try.f203.resultTypes.toList)=[(.tmp 2,[none],none),(.tmp 3,[none],none),(.tmp 4,[none],none),(.tmp 5,[none],none)]:=kr
theorem rF212:resK Pg (Try.f212.results.toList.zip Try.f212.resultTypes.toList)=[(.tmp 4,[none],none)]:=kr
theorem rF24:resK Pg (Try.f24.results.toList.zip Try.f24.resultTypes.toList)=[(.tmp 8,[some 1],none),(.tmp 9,[none],none)]:=kr
theorem rF25:resK Pg (Try.f25.results.toList.zip Try.f25.resultTypes.toList)=[(.tmp 8,[some 1],none),(.tmp 9,[none],none)]:=kr
theorem rF37:resK Pg (Try.f37.results.toList.zip Try.f37.resultTypes.toList)=[(.tmp 4,[none],none)]:=kr
theorem rF39:resK Pg (Try.f39.results.toList.zip Try.f39.resultTypes.toList)=[(.cell 2 26,[none,none,some 2,some 2],some (true,4))]:=kr
theorem rF40:resK Pg (Try.f40.results.toList.zip Try.f40.resultTypes.toList)=[(.tmp 4,[none],none)]:=kr
theorem rF41:resK Pg (Try.f41.results.toList.zip Try.f41.resultTypes.toList)=[(.tmp 4,[none],none)]:=kr
theorem rF42:resK Pg (Try.f42.results.toList.zip Try.f42.resultTypes.toList)=[(.tmp 4,[none],none)]:=kr
theorem rF43:resK Pg (Try.f43.results.toList.zip Try.f43.resultTypes.toList)=[(.tmp 4,[none],none)]:=kr
theorem rF44:resK Pg (Try.f44.results.toList.zip Try.f44.resultTypes.toList)=[(.tmp 4,[none],none)]:=kr
theorem rF45:resK Pg (Try.f45.results.toList.zip Try.f45.resultTypes.toList)=[(.tmp 4,[none],none)]:=kr
theorem rF46:resK Pg (Try.f46.results.toList.zip Try.f46.resultTypes.toList)=[(.tmp 2,[some 3],none)]:=kr
theorem rF47:resK Pg (Try.f47.results.toList.zip Try.f47.resultTypes.toList)=[(.tmp 4,[none],none)]:=kr
theorem rF48:resK Pg (Try.f48.results.toList.zip Try.f48.resultTypes.toList)=[(.tmp 4,[none],none)]:=kr
theorem rF51:resK Pg (Try.f51.results.toList.zip Try.f51.resultTypes.toList)=[(.tmp 2,[none],none)]:=kr
theorem rF54:resK Pg (Try.f54.results.toList.zip Try.f54.resultTypes.toList)=[(.tmp 2,[none],none)]:=kr
theorem rF63:resK Pg (Try.f63.results.toList.zip Try.f63.resultTypes.toList)=[(.tmp 2,[some 1],none)]:=kr
theorem rF67:resK Pg (Try.f67.results.toList.zip Try.f67.resultTypes.toList)=[(.tmp 10,[none],none),(.tmp 11,[none],none)]:=kr
theorem rF68:resK Pg (Try.f68.results.toList.zip Try.f68.resultTypes.toList)=[(.tmp 10,[none],none),(.tmp 11,[none],none)]:=kr
theorem rF69:resK Pg (Try.f69.results.toList.zip Try.f69.resultTypes.toList)=[(.tmp 2,[some 1],none)]:=kr
theorem rF71:resK Pg (Try.f71.results.toList.zip Try.f71.resultTypes.toList)=[(.tmp 2,[some 1],none)]:=kr
theorem rF79:resK Pg (Try.f79.results.toList.zip Try.f79.resultTypes.toList)=[(.tmp 6,[none],none)]:=kr
theorem rF8:resK Pg (Try.f8.results.toList.zip Try.f8.resultTypes.toList)=[(.tmp 8,[none],none)]:=kr
theorem rF80:resK Pg (Try.f80.results.toList.zip Try.f80.resultTypes.toList)=[(.tmp 4,[none],none)]:=kr
theorem rF82:resK Pg (Try.f82.results.toList.zip Try.f82.resultTypes.toList)=[(.tmp 4,[none],none)]:=kr
theorem rF83:resK Pg (Try.f83.results.toList.zip Try.f83.resultTypes.toList)=[(.tmp 4,[none],none)]:=kr
theorem rF85:resK Pg (Try.f85.results.toList.zip Try.f85.resultTypes.toList)=[(.tmp 2,[some 2],none)]:=kr
theorem rF86:resK Pg (Try.f86.results.toList.zip Try.f86.resultTypes.toList)=[(.tmp 2,[some 2],none)]:=kr
theorem rF87:resK Pg (Try.f87.results.toList.zip Try.f87.resultTypes.toList)=[(.tmp 4,[none],none)]:=kr
theorem rF88:resK Pg (Try.f88.results.toList.zip Try.f88.resultTypes.toList)=[(.tmp 4,[none],none)]:=kr
theorem rF89:resK Pg (Try.f89.results.toList.zip Try.f89.resultTypes.toList)=[(.tmp 4,[none],none)]:=kr
theorem rF90:resK Pg (Try.f90.results.toList.zip Try.f90.resultTypes.toList)=[(.tmp 4,[none],none)]:=kr
theorem rF91:resK Pg (Try.f91.results.toList.zip Try.f91.resultTypes.toList)=[(.tmp 4,[none],none)]:=kr
theorem rF92:resK Pg (Try.f92.results.toList.zip Try.f92.resultTypes.toList)=[(.cell 2 123,[none,none,none],some (true,3))]:=kr
theorem rF93:resK Pg (Try.f93.results.toList.zip Try.f93.resultTypes.toList)=[(.tmp 4,[none],none)]:=kr
theorem rF94:resK Pg (Try.f94.results.toList.zip Try.f94.resultTypes.toList)=[(.tmp 2,[none],none)]:=kr
theorem rF97:resK Pg (Try.f97.results.toList.zip Try.f97.resultTypes.toList)=[(.tmp 6,[none],none)]:=kr
theorem rF98:resK Pg (Try.f98.results.toList.zip Try.f98.resultTypes.toList)=[(.tmp 2,[none],none)]:=kr
theorem rF99:resK Pg (Try.f99.results.toList.zip Try.f99.resultTypes.toList)=[(.tmp 2,[none],none)]:=kr
theorem sF161:sliceF Pg 161=some (162,1,[some 2],false,24,[.nil]):=kr
theorem sF162:sliceF Pg 162=some (165,2,[none,none],true,16,[z0,z0]):=kr
theorem sF195:sliceF Pg 195=some (9,1,[none],false,16,[z1]):=kr
theorem sF22:sliceF Pg 22=some (5,1,[none],false,1,[.im 0 (.sc (.int .u8 0))]):=kr
theorem sF23:sliceF Pg 23=some (155,2,[none,none],true,16,[z0,z0]):=kr
theorem sF24:sliceF Pg 24=some (148,2,[none,some 1],true,40,[z1,.nil]):=kr
theorem sF28:sliceF Pg 28=some (2,1,[none],false,8,[z0]):=kr
theorem sF42:sliceF Pg 42=some (123,3,[none,none,none],true,32,[z1,z0,z0]):=kr
theorem sF60:sliceF Pg 60=some (179,2,[none,none],true,16,[z0,z0]):=kr
theorem sF61:sliceF Pg 61=some (176,2,[none,some 1],true,40,[z1,.nil]):=kr
theorem sF71:sliceF Pg 71=some (139,3,[none,none,none],true,32,[z1,z0,z0]):=kr
theorem sF85:sliceF Pg 85=some (28,1,[some 1],false,24,[.nil]):=kr
theorem tF105:tyF Pg 105=some ([.nil,.nil,z0,z0,z0,.nil,.im 0 (.sc (.bool false))],[some 1,some 1,none,none,none,some 1,none],true,7):=kr
theorem tF110:tyF Pg 110=some ([.nil,z0,.nil,z0,.nil,.im 0 (.sc (.bool false)),.nil,z0,z0,z0],[some 1,none,some 3,none,some 1,none,some 1,none,none,none],true,10):=kr
theorem tF123:tyF Pg 123=some ([z1,z0,z0],[none,none,none],true,3):=kr
theorem tF139:tyF Pg 139=some ([z1,z0,z0],[none,none,none],true,3):=kr
theorem tF148:tyF Pg 148=some ([z1,.nil],[none,some 1],true,2):=kr
theorem tF155:tyF Pg 155=some ([z0,z0],[none,none],true,2):=kr
theorem tF161:tyF Pg 161=some ([.nil],[some 1],false,1):=kr
theorem tF162:tyF Pg 162=some ([.nil],[some 2],false,1):=kr
theorem tF165:tyF Pg 165=some ([z0,z0],[none,none],true,2):=kr
theorem tF176:tyF Pg 176=some ([z1,.nil],[none,some 1],true,2):=kr
theorem tF179:tyF Pg 179=some ([z0,z0],[none,none],true,2):=kr
theorem tF2:tyF Pg 2=some ([z0],[none],false,1):=kr
theorem tF23:tyF Pg 23=some ([.nil],[some 2],false,1):=kr
theorem tF24:tyF Pg 24=some ([.nil],[some 2],false,1):=kr
theorem tF26:tyF Pg 26=some ([z0,z0,.nil,.nil],[none,none,some 2,some 2],true,4):=kr
theorem tF28:tyF Pg 28=some ([.nil],[some 1],false,1):=kr
theorem tF3:tyF Pg 3=some ([z0],[none],false,1):=kr
theorem tF4:tyF Pg 4=some ([.im 0 (.sc (.bool false))],[none],false,1):=kr
theorem tF42:tyF Pg 42=some ([.nil],[some 3],false,1):=kr
theorem tF60:tyF Pg 60=some ([.nil],[some 2],false,1):=kr
theorem tF61:tyF Pg 61=some ([.nil],[some 2],false,1):=kr
theorem tF63:tyF Pg 63=some ([z0,z0,.nil,.nil],[none,none,some 2,some 2],true,4):=kr
theorem tF85:tyF Pg 85=some ([.nil],[some 1],false,1):=kr
theorem tF9:tyF Pg 9=some ([z1],[none],false,1):=kr
theorem uF161:Pg.underlying 161=some (.slice 162):=kr
theorem uF162:Pg.underlying 162=some (.slice 165):=kr
theorem uF195:Pg.underlying 195=some (.slice 9):=kr
theorem uF22:Pg.underlying 22=some (.slice 5):=kr
theorem uF23:Pg.underlying 23=some (.slice 155):=kr
theorem uF24:Pg.underlying 24=some (.slice 148):=kr
theorem uF28:Pg.underlying 28=some (.slice 2):=kr
theorem uF3:Pg.underlying 3=some (.int .i64):=kr
theorem uF42:Pg.underlying 42=some (.slice 123):=kr
theorem uF5:Pg.underlying 5=some (.int .u8):=kr
theorem uF60:Pg.underlying 60=some (.slice 179):=kr
theorem uF61:Pg.underlying 61=some (.slice 176):=kr
theorem uF71:Pg.underlying 71=some (.slice 139):=kr
theorem uF85:Pg.underlying 85=some (.slice 28):=kr
theorem uF9:Pg.underlying 9=some .string:=kr
abbrev FX (i:Nat) (a:List Arg) (r:Res×List Out):Prop:=FL Try.prog cfg i a=some r
theorem L_laws_szPointS {a_0:(List S_Point)} {left_1:Int} {r:Int} (h:laws_szPointS a_0 left_1=some r):FX 82 [.im 2 false [W 2 e_S_Point a_0],.im 2 false [I left_1]] (B0 [(false,[.im 0 (I r)])]):=by
 unfold laws_szPointS at h
 refine gn 12 Try.func82 rfl ?_
 refine gs<|g0 j j (q (oAsI j j)<|nl)<|us<|gs<|g0 j j (q (oMv j j)<|q (oMv j j)<|q (oLnI j j uF60 j)<|q (oBi j j j j)<|q (oAsI j j)<|nl)<|us<|gs<|gs<|g0 j j (q (oMv j j)<|q (oBi j j j j)<|nl)<|us<|gc h j iDec (fun hc1 h=>?_) fun hc1 h=>?_
 ·refine gs<|g0 j j (q (oAsI j j)<|nl)<|us<|Go.ret (Unw.ret ?_)
  cases h
  exact fr rF82 j
 ·refine Go.skip<|us<|gs<|g0 j j (q (oMv j j)<|q (oAsI j j)<|nl)<|us<|Go.ret (Unw.ret ?_)
  cases h
  exact fr rF82 j
theorem L_laws_szInt64S {a_0:(List Int)} {left_1:Int} {r:Int} (h:laws_szInt64S a_0 left_1=some r):FX 171 [.im 2 false [W 1 eI a_0],.im 2 false [I left_1]] (B0 [(false,[.im 0 (I r)])]):=by
 unfold laws_szInt64S at h
 refine gn 12 Try.func171 rfl ?_
 refine gs<|g0 j j (q (oAsI j j)<|nl)<|us<|gs<|g0 j j (q (oMv j j)<|q (oMv j j)<|q (oLnI j j uF28 j)<|q (oBi j j j j)<|q (oAsI j j)<|nl)<|us<|gs<|gs<|g0 j j (q (oMv j j)<|q (oBi j j j j)<|nl)<|us<|gc h j iDec (fun hc1 h=>?_) fun hc1 h=>?_
 ·refine gs<|g0 j j (q (oAsI j j)<|nl)<|us<|Go.ret (Unw.ret ?_)
  cases h
  exact fr rF171 j
 ·refine Go.skip<|us<|gs<|g0 j j (q (oMv j j)<|q (oAsI j j)<|nl)<|us<|Go.ret (Unw.ret ?_)
  cases h
  exact fr rF171 j
theorem L_laws_szFace {a_0:S_Face} {left_1:Int} {r:Int} (h:laws_szFace a_0 left_1=some r):FX 135 [.im 2 true (u_S_Face a_0),.im 2 false [I left_1]] (B0 [(false,[.im 0 (I r)])]):=by
 unfold laws_szFace at h
 refine gn 19 Try.func135 rfl ?_
 refine gs<|g0 j j (q (oBx j tF176 j (tkI (tkI tk0)))<|q (oAsI j j)<|nl)<|us<|gs<|g0 j j (q (oMv j j)<|q (oFA (r':=.mp 2 0 0) j fF176_0 j j)<|q (oLd (cs:=[.im 0 _]) j tF9 j j)<|q (oLnS j j uF9 j)<|q (oBi j j j j)<|q (oAsI j j)<|nl)<|us<|gs<|gs<|g0 j j (q (oMv j j)<|q (oBi j j j j)<|nl)<|us<|gc h j iDec (fun hc1 h=>?_) fun hc1 h=>?_
 ·refine gs<|g0 j j (q (oAsI j j)<|nl)<|us<|Go.ret (Unw.ret ?_)
  cases h
  exact fr rF135 j
 ·refine Go.skip<|us<|gs<|?_
  obtain ⟨x15,hx15,h⟩:=bs h
  refine g0 j j (q (oFA (r':=.mp 2 0 1) j fF176_1 j j)<|q (oLd (cs:=[.im 2 _]) j tF28 j j)<|q (oMv j j)<|q (oCa (xs:=[.v false [.im 2 _],.v false [.im 0 _]]) (vs:=[(false,[.im 0 _])]) (v:=.v false [.im 0 _]) (L_laws_szInt64S hx15) (.inl j) j kF171_28_3 j (ppC j (ppC j pp0)) j j pb0 j j j)<|q (oAsI j j)<|nl)<|us<|gs<|gs<|g0 j j (q (oMv j j)<|q (oBi j j j j)<|nl)<|us<|gc h j iDec (fun hc2 h=>?_) fun hc2 h=>?_
  ·refine gs<|g0 j j (q (oAsI j j)<|nl)<|us<|Go.ret (Unw.ret ?_)
   cases h
   exact fr rF135 j
  ·refine Go.skip<|us<|gs<|g0 j j (q (oMv j j)<|q (oAsI j j)<|nl)<|us<|Go.ret (Unw.ret ?_)
   cases h
   exact fr rF135 j
theorem L_laws_szFaceS {a_0:(List S_Face)} {left_1:Int} {r:Int} (h:laws_szFaceS a_0 left_1=some r):FX 83 [.im 2 false [W 2 e_S_Face a_0],.im 2 false [I left_1]] (B0 [(false,[.im 0 (I r)])]):=by
 unfold laws_szFaceS at h
 refine gn 27 Try.func83 rfl ?_
 refine gs<|g0 j j (q (oAsI j j)<|nl)<|us<|gs<|g0 j j (q (oMv j j)<|q (oMv j j)<|q (oLnI j j uF61 j)<|q (oBi j j j j)<|q (oAsI j j)<|nl)<|us<|gs<|gs<|g0 j j (q (oMv j j)<|q (oBi j j j j)<|nl)<|us<|gc h j iDec (fun hc1 h=>?_) fun hc1 h=>?_
 ·refine gs<|g0 j j (q (oAsI j j)<|nl)<|us<|Go.ret (Unw.ret ?_)
  cases h
  exact fr rF83 j
 ·refine Go.skip<|us<|gs<|gs<|g0 j j (q (oAsI j j)<|nl)<|us<|Go.block<|?_
  obtain ⟨o,hl,h⟩:=bs h
  refine gl c83 j _ (fun (s:(Int×Int))=>match s with | (left_1_l5,i_5_l5)=>mk [(0,D 2 (W 2 e_S_Face a_0)),(1,iv left_1_l5),(5,iv i_5_l5)] []) (fun (o:(Int ⊕ Int)) (p:Ex×St)=>match o with | (.inl left_1_e0_5)=>p.1= .exit 0∧p.2.norm ([1],[])=mk [(1,iv left_1_e0_5)] [] | (.inr r2)=>p.1= .ret∧fin Try.prog cfg 83 Try.f83 [.im 2 false [W 2 e_S_Face a_0],.im 2 false [I left_1]] p.2=some (B0 [(false,[.im 0 (I r2)])])) hl (by kernel_rfl) ?_ ?_ ?_
  ·intro o p hp e
   rcases o with left_1_e0_5 | r2<;>exact nomatch (hp.1.symm.trans e)
  ·rintro ⟨left_1_l5,i_5_l5⟩ o h
   unfold laws_szFaceS_l5 at h
   dsimp only at h
   refine gs<|gs<|g0 j j (q (oMv j j)<|q (oMv j j)<|q (oLnI j j uF61 j)<|q (oBi j j j j)<|nl)<|us<|gc h j iDec (fun hc6 h=>?_) fun hc6 h=>?_
   ·refine Go.skip<|us<|gs<|Go.block<|gs<|?_
    obtain ⟨x20,hx20,h⟩:=bs h
    obtain ⟨x23,hx23,h⟩:=bs h
    refine g0 j j (q (oMv j j)<|q (oMv j j)<|q (oIAI j hx20 sF61 j j)<|q (oLd (cs:=[.im 2 _,.im 2 _]) j tF176 j j)<|q (oMv j j)<|q (oCa (xs:=[.v true [.im 2 _,.im 2 _],.v false [.im 0 _]]) (vs:=[(false,[.im 0 _])]) (v:=.v false [.im 0 _]) (L_laws_szFace hx23) (.inl j) j kF135_176_3 j (ppC j (ppC j pp0)) j j pb0 j j j)<|q (oAsI j j)<|nl)<|us<|gs<|g0 j j (q (oMv j j)<|q (oBi j j j j)<|nl)<|us<|gc h j iDec (fun hc7 h=>?_) fun hc7 h=>?_
    ·refine gs<|g0 j j (q (oAsI j j)<|nl)<|us<|Go.ret (Unw.ret ?_)
     cases h
     exact ⟨j,(fo rF83 j)⟩
    ·refine Go.skip<|Unw.blk<|us<|g0 j j (q (oMv j j)<|q (oBi j j j j)<|q (oAsI j j)<|nl)<|Unw.nil<|?_
     cases h
     exact ⟨j,(by kernel_rfl)⟩
   ·refine Go.exit<|ux<|Unw.nil<|?_
    cases h
    exact ⟨j,(by kernel_rfl)⟩
  ·rintro ⟨e,st⟩ hp
   rcases o with left_1_e0_5 | r2
   ·dsimp only at h
    obtain ⟨he,hst⟩:=hp
    obtain rfl:e= .exit 0:=he
    refine Unw.blkx<|us<|gs<|g2 c83 j j hst (q (oMv j j)<|q (oAsI j j)<|nl)<|us<|Go.ret (Unw.ret ?_)
    cases h
    exact fr rF83 j
   ·dsimp only at h
    obtain ⟨he,hfin⟩:=hp
    obtain rfl:e= .ret:=he
    cases h
    exact Unw.ret (Fin_ret hfin)
theorem L_laws_szDrawing {a_0:S_Drawing} {left_1:Int} {r:Int} (h:laws_szDrawing a_0 left_1=some r):FX 37 [.im 2 true (u_S_Drawing a_0),.im 2 false [I left_1]] (B0 [(false,[.im 0 (I r)])]):=by
 unfold laws_szDrawing at h
 refine gn 18 Try.func37 rfl ?_
 refine gs<|g0 j j (q (oBx j tF63 j (tkI (tkI (tkI (tkI tk0)))))<|q (oAsI j j)<|nl)<|us<|gs<|?_
 obtain ⟨x8,hx8,h⟩:=bs h
 refine g0 j j (q (oFA (r':=.mp 2 0 2) j fF63_2 j j)<|q (oLd (cs:=[.im 2 _]) j tF60 j j)<|q (oMv j j)<|q (oCa (xs:=[.v false [.im 2 _],.v false [.im 2 _]]) (vs:=[(false,[.im 0 _])]) (v:=.v false [.im 0 _]) (L_laws_szPointS hx8) (.inl j) j kF82_60_3 j (ppC j (ppC j pp0)) j j pb0 j j j)<|q (oAsI j j)<|nl)<|us<|gs<|gs<|g0 j j (q (oMv j j)<|q (oBi j j j j)<|nl)<|us<|gc h j iDec (fun hc1 h=>?_) fun hc1 h=>?_
 ·refine gs<|g0 j j (q (oAsI j j)<|nl)<|us<|Go.ret (Unw.ret ?_)
  cases h
  exact fr rF37 j
 ·refine Go.skip<|us<|gs<|?_
  obtain ⟨x14,hx14,h⟩:=bs h
  refine g0 j j (q (oFA (r':=.mp 2 0 3) j fF63_3 j j)<|q (oLd (cs:=[.im 2 _]) j tF61 j j)<|q (oMv j j)<|q (oCa (xs:=[.v false [.im 2 _],.v false [.im 0 _]]) (vs:=[(false,[.im 0 _])]) (v:=.v false [.im 0 _]) (L_laws_szFaceS hx14) (.inl j) j kF83_61_3 j (ppC j (ppC j pp0)) j j pb0 j j j)<|q (oAsI j j)<|nl)<|us<|gs<|gs<|g0 j j (q (oMv j j)<|q (oBi j j j j)<|nl)<|us<|gc h j iDec (fun hc2 h=>?_) fun hc2 h=>?_
  ·refine gs<|g0 j j (q (oAsI j j)<|nl)<|us<|Go.ret (Unw.ret ?_)
   cases h
   exact fr rF37 j
  ·refine Go.skip<|us<|gs<|g0 j j (q (oMv j j)<|q (oAsI j j)<|nl)<|us<|Go.ret (Unw.ret ?_)
   cases h
   exact fr rF37 j
theorem L_laws_szVeneer {a_0:S_Veneer} {left_1:Int} {r:Int} (h:laws_szVeneer a_0 left_1=some r):FX 91 [.im 2 true (u_S_Veneer a_0),.im 2 false [I left_1]] (B0 [(false,[.im 0 (I r)])]):=by
 unfold laws_szVeneer at h
 refine gn 13 Try.func91 rfl ?_
 refine gs<|g0 j j (q (oBx j tF139 j (tkI (tkI (tkI tk0))))<|q (oAsI j j)<|nl)<|us<|gs<|g0 j j (q (oMv j j)<|q (oFA (r':=.mp 2 0 0) j fF139_0 j j)<|q (oLd (cs:=[.im 0 _]) j tF9 j j)<|q (oLnS j j uF9 j)<|q (oBi j j j j)<|q (oAsI j j)<|nl)<|us<|gs<|gs<|g0 j j (q (oMv j j)<|q (oBi j j j j)<|nl)<|us<|gc h j iDec (fun hc1 h=>?_) fun hc1 h=>?_
 ·refine gs<|g0 j j (q (oAsI j j)<|nl)<|us<|Go.ret (Unw.ret ?_)
  cases h
  exact fr rF91 j
 ·refine Go.skip<|us<|gs<|g0 j j (q (oMv j j)<|q (oAsI j j)<|nl)<|us<|Go.ret (Unw.ret ?_)
  cases h
  exact fr rF91 j
theorem L_laws_szVeneerS {a_0:(List S_Veneer)} {left_1:Int} {r:Int} (h:laws_szVeneerS a_0 left_1=some r):FX 45 [.im 2 false [W 3 e_S_Veneer a_0],.im 2 false [I left_1]] (B0 [(false,[.im 0 (I r)])]):=by
 unfold laws_szVeneerS at h
 refine gn 27 Try.func45 rfl ?_
 refine gs<|g0 j j (q (oAsI j j)<|nl)<|us<|gs<|g0 j j (q (oMv j j)<|q (oMv j j)<|q (oLnI j j uF71 j)<|q (oBi j j j j)<|q (oAsI j j)<|nl)<|us<|gs<|gs<|g0 j j (q (oMv j j)<|q (oBi j j j j)<|nl)<|us<|gc h j iDec (fun hc1 h=>?_) fun hc1 h=>?_
 ·refine gs<|g0 j j (q (oAsI j j)<|nl)<|us<|Go.ret (Unw.ret ?_)
  cases h
  exact fr rF45 j
 ·refine Go.skip<|us<|gs<|gs<|g0 j j (q (oAsI j j)<|nl)<|us<|Go.block<|?_
  obtain ⟨o,hl,h⟩:=bs h
  refine gl c45 j _ (fun (s:(Int×Int))=>match s with | (left_1_l5,i_5_l5)=>mk [(0,D 2 (W 3 e_S_Veneer a_0)),(1,iv left_1_l5),(5,iv i_5_l5)] []) (fun (o:(Int ⊕ Int)) (p:Ex×St)=>match o with | (.inl left_1_e0_5)=>p.1= .exit 0∧p.2.norm ([1],[])=mk [(1,iv left_1_e0_5)] [] | (.inr r2)=>p.1= .ret∧fin Try.prog cfg 45 Try.f45 [.im 2 false [W 3 e_S_Veneer a_0],.im 2 false [I left_1]] p.2=some (B0 [(false,[.im 0 (I r2)])])) hl (by kernel_rfl) ?_ ?_ ?_
  ·intro o p hp e
   rcases o with left_1_e0_5 | r2<;>exact nomatch (hp.1.symm.trans e)
  ·rintro ⟨left_1_l5,i_5_l5⟩ o h
   unfold laws_szVeneerS_l5 at h
   dsimp only at h
   refine gs<|gs<|g0 j j (q (oMv j j)<|q (oMv j j)<|q (oLnI j j uF71 j)<|q (oBi j j j j)<|nl)<|us<|gc h j iDec (fun hc6 h=>?_) fun hc6 h=>?_
   ·refine Go.skip<|us<|gs<|Go.block<|gs<|?_
    obtain ⟨x20,hx20,h⟩:=bs h
    obtain ⟨x23,hx23,h⟩:=bs h
    refine g0 j j (q (oMv j j)<|q (oMv j j)<|q (oIAI j hx20 sF71 j j)<|q (oLd (cs:=[.im 2 _,.im 2 _,.im 2 _]) j tF139 j j)<|q (oMv j j)<|q (oCa (xs:=[.v true [.im 2 _,.im 2 _,.im 2 _],.v false [.im 0 _]]) (vs:=[(false,[.im 0 _])]) (v:=.v false [.im 0 _]) (L_laws_szVeneer hx23) (.inl j) j kF91_139_3 j (ppC j (ppC j pp0)) j j pb0 j j j)<|q (oAsI j j)<|nl)<|us<|gs<|g0 j j (q (oMv j j)<|q (oBi j j j j)<|nl)<|us<|gc h j iDec (fun hc7 h=>?_) fun hc7 h=>?_
    ·refine gs<|g0 j j (q (oAsI j j)<|nl)<|us<|Go.ret (Unw.ret ?_)
     cases h
     exact ⟨j,(fo rF45 j)⟩
    ·refine Go.skip<|Unw.blk<|us<|g0 j j (q (oMv j j)<|q (oBi j j j j)<|q (oAsI j j)<|nl)<|Unw.nil<|?_
     cases h
     exact ⟨j,(by kernel_rfl)⟩
   ·refine Go.exit<|ux<|Unw.nil<|?_
    cases h
    exact ⟨j,(by kernel_rfl)⟩
  ·rintro ⟨e,st⟩ hp
   rcases o with left_1_e0_5 | r2
   ·dsimp only at h
    obtain ⟨he,hst⟩:=hp
    obtain rfl:e= .exit 0:=he
    refine Unw.blkx<|us<|gs<|g2 c45 j j hst (q (oMv j j)<|q (oAsI j j)<|nl)<|us<|Go.ret (Unw.ret ?_)
    cases h
    exact fr rF45 j
   ·dsimp only at h
    obtain ⟨he,hfin⟩:=hp
    obtain rfl:e= .ret:=he
    cases h
    exact Unw.ret (Fin_ret hfin)
theorem L_laws_toPoint {a_0:S_Point} {r:S_Point} (h:laws_toPoint a_0=some r):FX 138 [.im 2 true (u_S_Point a_0)] (B0 [(true,J 0 (u_S_Point r))]):=by
 unfold laws_toPoint at h
 refine gn 11 Try.func138 rfl ?_
 refine gs<|g0 j j (q (oBx j tF179 j (tkI (tkI tk0)))<|q (oAl j tF155 (tkI (tkI tk0)))<|nl)<|us<|gs<|g0 j j (q (oAl j tF155 (tkI (tkI tk0)))<|nl)<|us<|gs<|g0 j j (q (oFA (r':=.mp 1 0 0) j fF179_0 j j)<|q (oLd (cs:=[.im 0 _]) j tF2 j j)<|q (oFA (r':=.mp 3 0 0) j fF155_0 j j)<|q (oSt tF2 j j j (tkI tk0) j j j)<|nl)<|us<|gs<|g1 j j (mk [(1,M 1),(2,M 2),(3,M 3)] [(1,Oa (G 0 (u_S_Point a_0))),(2,Oa [C (I 0),C (I 0)]),(3,Oa [C (I a_0.X),C (I 0)])]) (q (oFA (r':=.mp 1 0 1) j fF179_1 j j)<|q (oLd (cs:=[.im 0 _]) j tF2 j j)<|q (oFA (r':=.mp 3 0 1) j fF155_1 j j)<|q (oSt tF2 j j j (tkI tk0) j j j)<|nl)<|us<|gs<|g1 j j (mk [(2,M 2),(3,M 3)] [(2,Oa [C (I 0),C (I 0)]),(3,Oa (G 0 (u_S_Point a_0)))]) (q (oLd (cs:=[.im 0 _,.im 0 _]) j tF155 j j)<|q (oSt tF155 j j j (tkI (tkI tk0)) j j j)<|nl)<|us<|Go.ret (Unw.ret ?_)
 cases h
 exact fr rF138 j
theorem L_laws_toPointS {a_0:(List S_Point)} {r:(List S_Point)} (h:laws_toPointS a_0=some r):FX 85 [.im 2 false [W 2 e_S_Point a_0]] (B0 [(false,[.ow 0 2 (List.map e_S_Point r)])]):=by
 unfold laws_toPointS at h
 refine gn 23 Try.func85 rfl ?_
 refine gs<|g0 j j (q (oAsN j j eF23)<|nl)<|us<|gs<|?_
 obtain ⟨x7,hx7,h⟩:=bs h
 refine g0 j j (q (oMv j j)<|q (oLnI j j uF60 j)<|q (oMk (en:=e_S_Point) j hx7 j sF23 j j (fxI (fxI fx0)) j (flat0 (L:=[_]) j fun _=>j))<|q (oAsO j j j j j)<|nl)<|us<|gs<|gs<|g0 j j (q (oAsI j j)<|nl)<|us<|Go.block<|?_
 obtain ⟨o,hl,h⟩:=bs h
 refine gl c85 j _ (fun (s:(Int×(List S_Point)))=>match s with | (i_4_l3,out_o3_l3)=>mk [(0,D 2 (W 2 e_S_Point a_0)),(3,H 3 0),(4,iv i_4_l3)] [(3,Oc [Z (W 2 e_S_Point out_o3_l3)])]) (fun (out_o3_e0_3:(List S_Point)) (p:Ex×St)=>p.1= .exit 0∧p.2.norm ([3],[3])=mk [(3,H 3 0)] [(3,Oc [Z (W 2 e_S_Point out_o3_e0_3)])]) hl (by kernel_rfl) ?_ ?_ ?_
 ·intro o p hp e
  exact nomatch (hp.1.symm.trans e)
 ·rintro ⟨i_4_l3,out_o3_l3⟩ o h
  unfold laws_toPointS_l3 at h
  dsimp only at h
  refine gs<|gs<|g0 j j (q (oMv j j)<|q (oMv j j)<|q (oLnI j j uF60 j)<|q (oBi j j j j)<|nl)<|us<|gc h j iDec (fun hc3 h=>?_) fun hc3 h=>?_
  ·refine Go.skip<|us<|gs<|Go.block<|?_
   obtain ⟨x18,hx18,h⟩:=bs h
   obtain ⟨x20,hx20,h⟩:=bs h
   obtain ⟨x21,hx21,h⟩:=bs h
   refine g0 j j (q (oMv j j)<|q (oMv j j)<|q (oMv j j)<|q (oMv j j)<|q (oIAI j hx18 sF60 j j)<|q (oLd (cs:=[.im 2 _,.im 2 _]) j tF179 j j)<|q (oCa (xs:=[.v true [.im 2 _,.im 2 _]]) (vs:=[(true,[.im 0 _,.im 0 _])]) (v:=.v true [.im 0 _,.im 0 _]) (L_laws_toPoint hx20) (.inl j) j kF138_179 j (ppC j pp0) j j pb0 j j j)<|q (oIAO j hx21 sF23 j j j j)<|q (oStE (v':=x20) tF155 j j j (fxI (fxI fx0)) j j (rd_get hx21) j)<|nl)<|Unw.blk<|us<|g1 j j (mk [(0,D 2 (W 2 e_S_Point a_0)),(3,H 3 0),(4,iv i_4_l3)] [(3,Oc [Z (W 2 e_S_Point (out_o3_l3.set i_4_l3.toNat x20))])]) (q (oMv j j)<|q (oBi j j j j)<|q (oAsI j j)<|nl)<|Unw.nil<|?_
   cases h
   exact ⟨j,(by kernel_rfl)⟩
  ·refine Go.exit<|ux<|Unw.nil<|?_
   cases h
   exact ⟨j,(by kernel_rfl)⟩
 ·rintro ⟨e,st⟩ hp
  obtain ⟨out_o3_e0_3,rfl⟩:∃y,y=o:=⟨o,rfl⟩
  obtain ⟨he,hst⟩:=hp
  obtain rfl:e= .exit 0:=he
  refine Unw.blkx<|us<|gs<|g2 c85 j j hst (q (oMv j j)<|q (oAsO j j j j j)<|nl)<|us<|Go.ret (Unw.ret ?_)
  cases h
  exact fr rF85 j
theorem L_laws_toInt64S {a_0:(List Int)} {r:(List Int)} (h:laws_toInt64S a_0=some r):FX 174 [.im 2 false [W 1 eI a_0]] (B0 [(false,[.ow 0 1 (List.map eI r)])]):=by
 unfold laws_toInt64S at h
 refine gn 22 Try.func174 rfl ?_
 refine gs<|g0 j j (q (oAsN j j eF28)<|nl)<|us<|gs<|?_
 obtain ⟨x7,hx7,h⟩:=bs h
 refine g0 j j (q (oMv j j)<|q (oLnI j j uF28 j)<|q (oMk (en:=eI) j hx7 j sF28 j j (fxI fx0) j (flat0 (L:=[_]) j fun _=>j))<|q (oAsO j j j j j)<|nl)<|us<|gs<|gs<|g0 j j (q (oAsI j j)<|nl)<|us<|Go.block<|?_
 obtain ⟨o,hl,h⟩:=bs h
 refine gl c174 j _ (fun (s:(Int×(List Int)))=>match s with | (i_4_l3,out_o3_l3)=>mk [(0,D 2 (W 1 eI a_0)),(3,H 3 0),(4,iv i_4_l3)] [(3,Oc [Z (W 1 eI out_o3_l3)])]) (fun (out_o3_e0_3:(List Int)) (p:Ex×St)=>p.1= .exit 0∧p.2.norm ([3],[3])=mk [(3,H 3 0)] [(3,Oc [Z (W 1 eI out_o3_e0_3)])]) hl (by kernel_rfl) ?_ ?_ ?_
 ·intro o p hp e
  exact nomatch (hp.1.symm.trans e)
 ·rintro ⟨i_4_l3,out_o3_l3⟩ o h
  unfold laws_toInt64S_l3 at h
  dsimp only at h
  refine gs<|gs<|g0 j j (q (oMv j j)<|q (oMv j j)<|q (oLnI j j uF28 j)<|q (oBi j j j j)<|nl)<|us<|gc h j iDec (fun hc3 h=>?_) fun hc3 h=>?_
  ·refine Go.skip<|us<|gs<|Go.block<|?_
   obtain ⟨x18,hx18,h⟩:=bs h
   obtain ⟨x20,hx20,h⟩:=bs h
   refine g0 j j (q (oMv j j)<|q (oMv j j)<|q (oMv j j)<|q (oMv j j)<|q (oIAI j hx18 sF28 j j)<|q (oLd (cs:=[.im 2 _]) j tF2 j j)<|q (oIAO j hx20 sF28 j j j j)<|q (oStE (v':=x18) tF2 j j j (fxI fx0) j j (rd_get hx20) j)<|nl)<|Unw.blk<|us<|g1 j j (mk [(0,D 2 (W 1 eI a_0)),(3,H 3 0),(4,iv i_4_l3)] [(3,Oc [Z (W 1 eI (out_o3_l3.set i_4_l3.toNat x18))])]) (q (oMv j j)<|q (oBi j j j j)<|q (oAsI j j)<|nl)<|Unw.nil<|?_
   cases h
   exact ⟨j,(by kernel_rfl)⟩
  ·refine Go.exit<|ux<|Unw.nil<|?_
   cases h
   exact ⟨j,(by kernel_rfl)⟩
 ·rintro ⟨e,st⟩ hp
  obtain ⟨out_o3_e0_3,rfl⟩:∃y,y=o:=⟨o,rfl⟩
  obtain ⟨he,hst⟩:=hp
  obtain rfl:e= .exit 0:=he
  refine Unw.blkx<|us<|gs<|g2 c174 j j hst (q (oMv j j)<|q (oAsO j j j j j)<|nl)<|us<|Go.ret (Unw.ret ?_)
  cases h
  exact fr rF174 j
theorem L_laws_toFace {a_0:S_Face} {r:S_Face} (h:laws_toFace a_0=some r):FX 139 [.im 2 true (u_S_Face a_0)] (B0 [(true,[.im 0 (Y r.Name),.ow 0 1 (List.map eI r.Ring)])]):=by
 unfold laws_toFace at h
 refine gn 12 Try.func139 rfl ?_
 refine gs<|g0 j j (q (oBx j tF176 j (tkI (tkI tk0)))<|q (oAl j tF148 (tkI (tkN tk0)))<|nl)<|us<|gs<|g0 j j (q (oAl j tF148 (tkI (tkN tk0)))<|nl)<|us<|gs<|g0 j j (q (oFA (r':=.mp 1 0 0) j fF176_0 j j)<|q (oLd (cs:=[.im 0 _]) j tF9 j j)<|q (oFA (r':=.mp 3 0 0) j fF148_0 j j)<|q (oSt tF9 j j j (tkI tk0) j j j)<|nl)<|us<|gs<|?_
 obtain ⟨x9,hx9,h⟩:=bs h
 refine g1 j j (mk [(1,M 1),(2,M 2),(3,M 3)] [(1,Oa (G 2 (u_S_Face a_0))),(2,Oa [C (Y (⟨#[]⟩:ByteArray)),Z (W 1 eI ([]:List Int))]),(3,Oa [C (Y a_0.Name),Z (W 1 eI ([]:List Int))])]) (q (oFA (r':=.mp 1 0 1) j fF176_1 j j)<|q (oLd (cs:=[.im 2 _]) j tF28 j j)<|q (oCr (xs:=[.v false [.im 2 _]]) (vs:=[(false,[.own 9 0 0])]) (v:=.v false [.own 9 0 0]) (c:=⟨.sh,0,_⟩) (cs:=[]) (L_laws_toInt64S hx9) (.inl j) j kF174_28 j (ppC j pp0) j j pb0 j j j)<|q (oFA (r':=.mp 3 0 1) j fF148_1 j j)<|q (oSt tF28 j j j (tkO j j tk0) j j j)<|nl)<|us<|gs<|g1 j j (mk [(2,M 2),(3,M 3)] [(2,Oa [C (Y (⟨#[]⟩:ByteArray)),Z (W 1 eI ([]:List Int))]),(3,Oa [C (Y a_0.Name),Z (W 1 eI x9)])]) (q (oLd (cs:=[.im 0 _,.own 3 0 1]) j tF148 j j)<|q (oSt tF148 j j j (tkI (tkO j j tk0)) j j j)<|nl)<|us<|Go.ret (Unw.ret ?_)
 cases h
 exact fr rF139 j
theorem L_laws_toFaceS {a_0:(List S_Face)} {r:(List S_Face)} (h:laws_toFaceS a_0=some r):FX 86 [.im 2 false [W 2 e_S_Face a_0]] (B0 [(false,[.ow 0 2 (List.map e_S_Face r)])]):=by
 unfold laws_toFaceS at h
 refine gn 23 Try.func86 rfl ?_
 refine gs<|g0 j j (q (oAsN j j eF24)<|nl)<|us<|gs<|?_
 obtain ⟨x7,hx7,h⟩:=bs h
 refine g0 j j (q (oMv j j)<|q (oLnI j j uF61 j)<|q (oMk (en:=e_S_Face) j hx7 j sF24 j j (fxI (fxN fx0)) j (flat1 j))<|q (oAsO j j j j j)<|nl)<|us<|gs<|gs<|g0 j j (q (oAsI j j)<|nl)<|us<|Go.block<|?_
 obtain ⟨o,hl,h⟩:=bs h
 refine gl c86 j _ (fun (s:(Int×(List S_Face)))=>match s with | (i_4_l3,out_o3_l3)=>mk [(0,D 2 (W 2 e_S_Face a_0)),(3,H 3 0),(4,iv i_4_l3)] [(3,Oc [Z (W 2 e_S_Face out_o3_l3)])]) (fun (out_o3_e0_3:(List S_Face)) (p:Ex×St)=>p.1= .exit 0∧p.2.norm ([3],[3])=mk [(3,H 3 0)] [(3,Oc [Z (W 2 e_S_Face out_o3_e0_3)])]) hl (by kernel_rfl) ?_ ?_ ?_
 ·intro o p hp e
  exact nomatch (hp.1.symm.trans e)
 ·rintro ⟨i_4_l3,out_o3_l3⟩ o h
  unfold laws_toFaceS_l3 at h
  dsimp only at h
  refine gs<|gs<|g0 j j (q (oMv j j)<|q (oMv j j)<|q (oLnI j j uF61 j)<|q (oBi j j j j)<|nl)<|us<|gc h j iDec (fun hc3 h=>?_) fun hc3 h=>?_
  ·refine Go.skip<|us<|gs<|Go.block<|?_
   obtain ⟨x18,hx18,h⟩:=bs h
   obtain ⟨x20,hx20,h⟩:=bs h
   obtain ⟨x21,hx21,h⟩:=bs h
   refine g0 j j (q (oMv j j)<|q (oMv j j)<|q (oMv j j)<|q (oMv j j)<|q (oIAI j hx18 sF61 j j)<|q (oLd (cs:=[.im 2 _,.im 2 _]) j tF176 j j)<|q (oCr (xs:=[.v true [.im 2 _,.im 2 _]]) (vs:=[(true,[.im 0 _,.own 20 0 0])]) (v:=.v true [.im 0 _,.own 20 0 0]) (c:=⟨.sh,0,_⟩) (cs:=[]) (L_laws_toFace hx20) (.inl j) j kF139_176 j (ppC j pp0) j j pb0 j j j)<|q (oIAO j hx21 sF24 j j j j)<|q (oStE (v':=x20) tF148 j j j (fxI (fxO j j fx0)) j j (rd_get hx21) j)<|nl)<|Unw.blk<|us<|g1 j j (mk [(0,D 2 (W 2 e_S_Face a_0)),(3,H 3 0),(4,iv i_4_l3)] [(3,Oc [Z (W 2 e_S_Face (out_o3_l3.set i_4_l3.toNat x20))])]) (q (oMv j j)<|q (oBi j j j j)<|q (oAsI j j)<|nl)<|Unw.nil<|?_
   cases h
   exact ⟨j,(by kernel_rfl)⟩
  ·refine Go.exit<|ux<|Unw.nil<|?_
   cases h
   exact ⟨j,(by kernel_rfl)⟩
 ·rintro ⟨e,st⟩ hp
  obtain ⟨out_o3_e0_3,rfl⟩:∃y,y=o:=⟨o,rfl⟩
  obtain ⟨he,hst⟩:=hp
  obtain rfl:e= .exit 0:=he
  refine Unw.blkx<|us<|gs<|g2 c86 j j hst (q (oMv j j)<|q (oAsO j j j j j)<|nl)<|us<|Go.ret (Unw.ret ?_)
  cases h
  exact fr rF86 j
theorem L_laws_toDrawing {a_0:S_Drawing} {r:S_Drawing} (h:laws_toDrawing a_0=some r):FX 39 [.im 2 true (u_S_Drawing a_0)] (B0 [(true,[.im 0 (I r.Width),.im 0 (I r.Height),.ow 0 2 (List.map e_S_Point r.Points),.ow 0 2 (List.map e_S_Face r.Faces)])]):=by
 unfold laws_toDrawing at h
 refine gn 19 Try.func39 rfl ?_
 refine gs<|g0 j j (q (oBx j tF63 j (tkI (tkI (tkI (tkI tk0)))))<|q (oAl j tF26 (tkI (tkI (tkN (tkN tk0)))))<|nl)<|us<|gs<|g0 j j (q (oAl j tF26 (tkI (tkI (tkN (tkN tk0)))))<|nl)<|us<|gs<|g0 j j (q (oFA (r':=.mp 1 0 0) j fF63_0 j j)<|q (oLd (cs:=[.im 0 _]) j tF2 j j)<|q (oFA (r':=.mp 3 0 0) j fF26_0 j j)<|q (oSt tF2 j j j (tkI tk0) j j j)<|nl)<|us<|gs<|g1 j j (mk [(1,M 1),(2,M 2),(3,M 3)] [(1,Oa (G 2 (u_S_Drawing a_0))),(2,Oa [C (I 0),C (I 0),Z (W 2 e_S_Point ([]:List S_Point)),Z (W 2 e_S_Face ([]:List S_Face))]),(3,Oa [C (I a_0.Width),C (I 0),Z (W 2 e_S_Point ([]:List S_Point)),Z (W 2 e_S_Face ([]:List S_Face))])]) (q (oFA (r':=.mp 1 0 1) j fF63_1 j j)<|q (oLd (cs:=[.im 0 _]) j tF2 j j)<|q (oFA (r':=.mp 3 0 1) j fF26_1 j j)<|q (oSt tF2 j j j (tkI tk0) j j j)<|nl)<|us<|gs<|?_
 obtain ⟨x12,hx12,h⟩:=bs h
 refine g1 j j (mk [(1,M 1),(2,M 2),(3,M 3)] [(1,Oa (G 2 (u_S_Drawing a_0))),(2,Oa [C (I 0),C (I 0),Z (W 2 e_S_Point ([]:List S_Point)),Z (W 2 e_S_Face ([]:List S_Face))]),(3,Oa [C (I a_0.Width),C (I a_0.Height),Z (W 2 e_S_Point ([]:List S_Point)),Z (W 2 e_S_Face ([]:List S_Face))])]) (q (oFA (r':=.mp 1 0 2) j fF63_2 j j)<|q (oLd (cs:=[.im 2 _]) j tF60 j j)<|q (oCr (xs:=[.v false [.im 2 _]]) (vs:=[(false,[.own 12 0 0])]) (v:=.v false [.own 12 0 0]) (c:=⟨.sh,0,_⟩) (cs:=[]) (L_laws_toPointS hx12) (.inl j) j kF85_60 j (ppC j pp0) j j pb0 j j j)<|q (oFA (r':=.mp 3 0 2) j fF26_2 j j)<|q (oSt tF23 j j j (tkO j j tk0) j j j)<|nl)<|us<|gs<|?_
 obtain ⟨x16,hx16,h⟩:=bs h
 refine g1 j j (mk [(1,M 1),(2,M 2),(3,M 3)] [(1,Oa (G 2 (u_S_Drawing a_0))),(2,Oa [C (I 0),C (I 0),Z (W 2 e_S_Point ([]:List S_Point)),Z (W 2 e_S_Face ([]:List S_Face))]),(3,Oa [C (I a_0.Width),C (I a_0.Height),Z (W 2 e_S_Point x12),Z (W 2 e_S_Face ([]:List S_Face))])]) (q (oFA (r':=.mp 1 0 3) j fF63_3 j j)<|q (oLd (cs:=[.im 2 _]) j tF61 j j)<|q (oCr (xs:=[.v false [.im 2 _]]) (vs:=[(false,[.own 16 0 0])]) (v:=.v false [.own 16 0 0]) (c:=⟨.sh,0,_⟩) (cs:=[]) (L_laws_toFaceS hx16) (.inl j) j kF86_61 j (ppC j pp0) j j pb0 j j j)<|q (oFA (r':=.mp 3 0 3) j fF26_3 j j)<|q (oSt tF24 j j j (tkO j j tk0) j j j)<|nl)<|us<|gs<|g1 j j (mk [(2,M 2),(3,M 3)] [(2,Oa [C (I 0),C (I 0),Z (W 2 e_S_Point ([]:List S_Point)),Z (W 2 e_S_Face ([]:List S_Face))]),(3,Oa [C (I a_0.Width),C (I a_0.Height),Z (W 2 e_S_Point x12),Z (W 2 e_S_Face x16)])]) (q (oLd (cs:=[.im 0 _,.im 0 _,.own 3 0 2,.own 3 0 3]) j tF26 j j)<|q (oSt tF26 j j j (tkI (tkI (tkO j j (tkO j j tk0)))) j j j)<|nl)<|us<|Go.ret (Unw.ret ?_)
 cases h
 exact fr rF39 j
theorem L_laws_toVeneer {a_0:S_Veneer} {r:S_Veneer} (h:laws_toVeneer a_0=some r):FX 92 [.im 2 true (u_S_Veneer a_0)] (B0 [(true,J 0 (u_S_Veneer r))]):=by
 unfold laws_toVeneer at h
 refine gn 14 Try.func92 rfl ?_
 refine gs<|g0 j j (q (oBx j tF139 j (tkI (tkI (tkI tk0))))<|q (oAl j tF123 (tkI (tkI (tkI tk0))))<|nl)<|us<|gs<|g0 j j (q (oAl j tF123 (tkI (tkI (tkI tk0))))<|nl)<|us<|gs<|g0 j j (q (oFA (r':=.mp 1 0 0) j fF139_0 j j)<|q (oLd (cs:=[.im 0 _]) j tF9 j j)<|q (oFA (r':=.mp 3 0 0) j fF123_0 j j)<|q (oSt tF9 j j j (tkI tk0) j j j)<|nl)<|us<|gs<|g1 j j (mk [(1,M 1),(2,M 2),(3,M 3)] [(1,Oa (G 0 (u_S_Veneer a_0))),(2,Oa [C (Y (⟨#[]⟩:ByteArray)),C (I 0),C (I 0)]),(3,Oa [C (Y a_0.Species),C (I 0),C (I 0)])]) (q (oFA (r':=.mp 1 0 1) j fF139_1 j j)<|q (oLd (cs:=[.im 0 _]) j tF2 j j)<|q (oFA (r':=.mp 3 0 1) j fF123_1 j j)<|q (oSt tF2 j j j (tkI tk0) j j j)<|nl)<|us<|gs<|g1 j j (mk [(1,M 1),(2,M 2),(3,M 3)] [(1,Oa (G 0 (u_S_Veneer a_0))),(2,Oa [C (Y (⟨#[]⟩:ByteArray)),C (I 0),C (I 0)]),(3,Oa [C (Y a_0.Species),C (I a_0.Shade),C (I 0)])]) (q (oFA (r':=.mp 1 0 2) j fF139_2 j j)<|q (oLd (cs:=[.im 0 _]) j tF2 j j)<|q (oFA (r':=.mp 3 0 2) j fF123_2 j j)<|q (oSt tF2 j j j (tkI tk0) j j j)<|nl)<|us<|gs<|g1 j j (mk [(2,M 2),(3,M 3)] [(2,Oa [C (Y (⟨#[]⟩:ByteArray)),C (I 0),C (I 0)]),(3,Oa (G 0 (u_S_Veneer a_0)))]) (q (oLd (cs:=[.im 0 _,.im 0 _,.im 0 _]) j tF123 j j)<|q (oSt tF123 j j j (tkI (tkI (tkI tk0))) j j j)<|nl)<|us<|Go.ret (Unw.ret ?_)
 cases h
 exact fr rF92 j
theorem L_laws_toVeneerS {a_0:(List S_Veneer)} {r:(List S_Veneer)} (h:laws_toVeneerS a_0=some r):FX 46 [.im 2 false [W 3 e_S_Veneer a_0]] (B0 [(false,[.ow 0 3 (List.map e_S_Veneer r)])]):=by
 unfold laws_toVeneerS at h
 refine gn 23 Try.func46 rfl ?_
 refine gs<|g0 j j (q (oAsN j j eF42)<|nl)<|us<|gs<|?_
 obtain ⟨x7,hx7,h⟩:=bs h
 refine g0 j j (q (oMv j j)<|q (oLnI j j uF71 j)<|q (oMk (en:=e_S_Veneer) j hx7 j sF42 j j (fxI (fxI (fxI fx0))) j (flat0 (L:=[_]) j fun _=>j))<|q (oAsO j j j j j)<|nl)<|us<|gs<|gs<|g0 j j (q (oAsI j j)<|nl)<|us<|Go.block<|?_
 obtain ⟨o,hl,h⟩:=bs h
 refine gl c46 j _ (fun (s:(Int×(List S_Veneer)))=>match s with | (i_4_l3,out_o3_l3)=>mk [(0,D 2 (W 3 e_S_Veneer a_0)),(3,H 3 0),(4,iv i_4_l3)] [(3,Oc [Z (W 3 e_S_Veneer out_o3_l3)])]) (fun (out_o3_e0_3:(List S_Veneer)) (p:Ex×St)=>p.1= .exit 0∧p.2.norm ([3],[3])=mk [(3,H 3 0)] [(3,Oc [Z (W 3 e_S_Veneer out_o3_e0_3)])]) hl (by kernel_rfl) ?_ ?_ ?_
 ·intro o p hp e
  exact nomatch (hp.1.symm.trans e)
 ·rintro ⟨i_4_l3,out_o3_l3⟩ o h
  unfold laws_toVeneerS_l3 at h
  dsimp only at h
  refine gs<|gs<|g0 j j (q (oMv j j)<|q (oMv j j)<|q (oLnI j j uF71 j)<|q (oBi j j j j)<|nl)<|us<|gc h j iDec (fun hc3 h=>?_) fun hc3 h=>?_
  ·refine Go.skip<|us<|gs<|Go.block<|?_
   obtain ⟨x18,hx18,h⟩:=bs h
   obtain ⟨x20,hx20,h⟩:=bs h
   obtain ⟨x21,hx21,h⟩:=bs h
   refine g0 j j (q (oMv j j)<|q (oMv j j)<|q (oMv j j)<|q (oMv j j)<|q (oIAI j hx18 sF71 j j)<|q (oLd (cs:=[.im 2 _,.im 2 _,.im 2 _]) j tF139 j j)<|q (oCa (xs:=[.v true [.im 2 _,.im 2 _,.im 2 _]]) (vs:=[(true,[.im 0 _,.im 0 _,.im 0 _])]) (v:=.v true [.im 0 _,.im 0 _,.im 0 _]) (L_laws_toVeneer hx20) (.inl j) j kF92_139 j (ppC j pp0) j j pb0 j j j)<|q (oIAO j hx21 sF42 j j j j)<|q (oStE (v':=x20) tF123 j j j (fxI (fxI (fxI fx0))) j j (rd_get hx21) j)<|nl)<|Unw.blk<|us<|g1 j j (mk [(0,D 2 (W 3 e_S_Veneer a_0)),(3,H 3 0),(4,iv i_4_l3)] [(3,Oc [Z (W 3 e_S_Veneer (out_o3_l3.set i_4_l3.toNat x20))])]) (q (oMv j j)<|q (oBi j j j j)<|q (oAsI j j)<|nl)<|Unw.nil<|?_
   cases h
   exact ⟨j,(by kernel_rfl)⟩
  ·refine Go.exit<|ux<|Unw.nil<|?_
   cases h
   exact ⟨j,(by kernel_rfl)⟩
 ·rintro ⟨e,st⟩ hp
  obtain ⟨out_o3_e0_3,rfl⟩:∃y,y=o:=⟨o,rfl⟩
  obtain ⟨he,hst⟩:=hp
  obtain rfl:e= .exit 0:=he
  refine Unw.blkx<|us<|gs<|g2 c46 j j hst (q (oMv j j)<|q (oAsO j j j j j)<|nl)<|us<|Go.ret (Unw.ret ?_)
  cases h
  exact fr rF46 j
theorem L_spec_l00In {n_0:Int} {low_1:Int} {high_2:Int} {r:Bool} (h:spec_l00In n_0 low_1 high_2=some r):FX 97 [.im 2 false [I n_0],.im 2 false [I low_1],.im 2 false [I high_2]] (B0 [(false,[.im 0 (V r)])]):=by
 unfold spec_l00In at h
 refine gn 15 Try.func97 rfl ?_
 refine gs<|g0 j j (q (oAsI j j)<|nl)<|us<|gs<|gX c97 j j j (mk [(6,bv ((decide (n_0≥low_1))&&(decide (n_0≤high_2))))] []) ?_ ?_
 ·refine xq (oMv j j)<|xq (oMv j j)<|xq (oBi j j j j)<|xq (oMv j j)<|?_
  by_cases hc1:n_0≥low_1
  ·exact xqT rfl rfl (iDec.2 hc1) (oMv rfl rfl)<|xqT rfl rfl (iDec.2 hc1) (oMv rfl rfl)<|xqT rfl rfl (iDec.2 hc1) (oBi rfl rfl rfl rfl)<|xq (oPkT rfl rfl (iDec.2 hc1) rfl)<|xq (oAsI rfl rfl)<|xn (Eq.trans (b:=(fun t_6_m1:Bool=>mk [(6,bv t_6_m1)] []) (decide (n_0≤high_2))) (by kernel_rfl) (congrArg (fun t_6_m1:Bool=>mk [(6,bv t_6_m1)] []) (by first | rfl | (simp [(iDec.2 hc1)];done) | (simp [(iDec.2 hc1)];omega))))
  ·exact xsgF rfl rfl (byF iDec hc1) rfl<|xsgF rfl rfl (byF iDec hc1) rfl<|xsgF rfl rfl (byF iDec hc1) rfl<|xq (oPkF rfl rfl (byF iDec hc1) rfl)<|xq (oAsI rfl rfl)<|xn (Eq.trans (b:=(fun t_6_m1:Bool=>mk [(6,bv t_6_m1)] []) false) (by kernel_rfl) (congrArg (fun t_6_m1:Bool=>mk [(6,bv t_6_m1)] []) (by first | rfl | (simp [(byF iDec hc1)];done) | (simp [(byF iDec hc1)];omega))))
 ·refine us<|Go.ret (Unw.ret ?_)
  cases h
  exact fr rF97 j
theorem L_spec_l05Points {d_0:S_Drawing} {r:Bool} (h:spec_l05Points d_0=some r):FX 98 [.im 2 false [.cp (u_S_Drawing d_0) 0]] (B0 [(false,[.im 0 (V r)])]):=by
 unfold spec_l05Points at h
 refine gn 70 Try.func98 rfl ?_
 refine gs<|g0 j j (q (oAsI j j)<|nl)<|us<|gs<|gs<|g0 j j (q (oMv j j)<|q (oNl j j j)<|q (oFA (r':=.im 2 _) j fF26_2 j j)<|q (oLd (cs:=[.im 2 _]) j tF23 j j)<|q (oLnI j j uF23 j)<|q (oBi j j j j)<|nl)<|us<|gc h j iDec (fun hc1 h=>?_) fun hc1 h=>?_
 ·refine gs<|g0 j j (q (oAsI j j)<|nl)<|us<|Go.ret (Unw.ret ?_)
  cases h
  exact fr rF98 j
 ·refine Go.skip<|us<|gs<|gs<|g0 j j (q (oAsI j j)<|nl)<|us<|Go.block<|?_
  obtain ⟨o,hl,h⟩:=bs h
  refine gl c98 j _ (fun (i_3_l4:Int)=>mk [(0,D 2 (.cp (u_S_Drawing d_0) 0)),(3,iv i_3_l4)] []) (fun (o:(Unit ⊕ Bool)) (p:Ex×St)=>match o with | (.inl _)=>p.1= .exit 0∧p.2.norm ([],[])=mk [] [] | (.inr r2)=>p.1= .ret∧fin Try.prog cfg 98 Try.f98 [.im 2 false [.cp (u_S_Drawing d_0) 0]] p.2=some (B0 [(false,[.im 0 (V r2)])])) hl (by kernel_rfl) ?_ ?_ ?_
  ·intro o p hp e
   rcases o with u | r2<;>exact nomatch (hp.1.symm.trans e)
  ·rintro i_3_l4 o h
   unfold spec_l05Points_l4 at h
   refine gs<|gs<|g0 j j (q (oMv j j)<|q (oMv j j)<|q (oNl j j j)<|q (oFA (r':=.im 2 _) j fF26_2 j j)<|q (oLd (cs:=[.im 2 _]) j tF23 j j)<|q (oLnI j j uF23 j)<|q (oBi j j j j)<|nl)<|us<|gc h j iDec (fun hc18 h=>?_) fun hc18 h=>?_
   ·refine Go.skip<|us<|gs<|Go.block<|gs<|gs<|?_
    obtain ⟨x25,hx25,h⟩:=bs h
    obtain ⟨x32,hx32,h⟩:=bs h
    obtain ⟨t_49_m6,hm27,h⟩:=bs h
    refine gd c98 j j j j (mk [(0,D 2 (.cp (u_S_Drawing d_0) 0)),(3,iv i_3_l4),(49,bv t_49_m6)] []) ?_ ?_
    ·refine t j j (oMv j j)<|t j j (oNl j j j)<|t j j (oFA (r':=.im 2 _) j fF26_2 j j)<|t j j (oLd (cs:=[.im 2 _]) j tF23 j j)<|t j j (oMv j j)<|t j j (oIAI j hx25 sF23 j j)<|t j j (oFA (r':=.im 2 _) j fF155_0 j j)<|t j j (oLd (cs:=[.im 2 _]) j tF2 j j)<|t j j (oMv j j)<|t j j (oNl j j j)<|t j j (oFA (r':=.im 2 _) j fF26_0 j j)<|?_
     refine ic hm27 (fun hc19 hm27=>?_) fun hc19 hm27=>?_
     ·obtain ⟨x40,hx40,hm27⟩:=bs hm27
      obtain ⟨x47,hx47,hm27⟩:=bs hm27
      cases hm27
      exact t j j (oLd (cs:=[.im 2 _]) j tF2 j j)<|sS (dN z98 j (oCa (xs:=[.v false [.im 2 _],.v false [.im 0 _],.v false [.im 2 _]]) (vs:=[(false,[.im 0 _])]) (v:=.v false [.im 0 _]) (L_spec_l00In hx32) (.inl j) j kF97_2_2_2 j (ppC j (ppC j (ppC j pp0))) j j pb0 j j j)) trivial (t j j (oUn j j j)<|t j j (oMv j j)<|tT j j j j (nF (iR.2 hc19)) (oMv j j)<|tT j j j j (nF (iR.2 hc19)) (oNl j j j)<|tT j j j j (nF (iR.2 hc19)) (oFA (r':=.im 2 _) j fF26_2 j j)<|tT j j j j (nF (iR.2 hc19)) (oLd (cs:=[.im 2 _]) j tF23 j j)<|tT j j j j (nF (iR.2 hc19)) (oMv j j)<|tT j j j j (nF (iR.2 hc19)) (oIAI j hx40 sF23 j j)<|tT j j j j (nF (iR.2 hc19)) (oFA (r':=.im 2 _) j fF155_1 j j)<|tT j j j j (nF (iR.2 hc19)) (oLd (cs:=[.im 2 _]) j tF2 j j)<|tT j j j j (nF (iR.2 hc19)) (oMv j j)<|tT j j j j (nF (iR.2 hc19)) (oNl j j j)<|tT j j j j (nF (iR.2 hc19)) (oFA (r':=.im 2 _) j fF26_1 j j)<|tT j j j j (nF (iR.2 hc19)) (oLd (cs:=[.im 2 _]) j tF2 j j)<|sS (dT z98 j j j (nF (iR.2 hc19)) (oCa (xs:=[.v false [.im 2 _],.v false [.im 0 _],.v false [.im 2 _]]) (vs:=[(false,[.im 0 _])]) (v:=.v false [.im 0 _]) (L_spec_l00In hx47) (.inl j) j kF97_2_2_2 j (ppC j (ppC j (ppC j pp0))) j j pb0 j j j)) trivial (tT j j j j (nF (iR.2 hc19)) (oUn j j j)<|t j j (oPkF j j (nF (iR.2 hc19)) j)<|sD (by kernel_rfl)))
     ·cases hm27
      exact t j j (oLd (cs:=[.im 2 _]) j tF2 j j)<|sS (dN z98 j (oCa (xs:=[.v false [.im 2 _],.v false [.im 0 _],.v false [.im 2 _]]) (vs:=[(false,[.im 0 _])]) (v:=.v false [.im 0 _]) (L_spec_l00In hx32) (.inl j) j kF97_2_2_2 j (ppC j (ppC j (ppC j pp0))) j j pb0 j j j)) trivial (t j j (oUn j j j)<|t j j (oMv j j)<|tF j j j j (nT (byF iR hc19)) j<|tF j j j j (nT (byF iR hc19)) j<|tF j j j j (nT (byF iR hc19)) j<|tF j j j j (nT (byF iR hc19)) j<|tF j j j j (nT (byF iR hc19)) j<|tF j j j j (nT (byF iR hc19)) j<|tF j j j j (nT (byF iR hc19)) j<|tF j j j j (nT (byF iR hc19)) j<|tF j j j j (nT (byF iR hc19)) j<|tF j j j j (nT (byF iR hc19)) j<|tF j j j j (nT (byF iR hc19)) j<|tF j j j j (nT (byF iR hc19)) j<|sS (dF j j j (nT (byF iR hc19)) j) trivial (tF j j j j (nT (byF iR hc19)) j<|t j j (oPkT j j (nT (byF iR hc19)) j)<|sD (by kernel_rfl)))
    ·refine us<|gc h j iR (fun hc20 h=>?_) fun hc20 h=>?_
     ·refine gs<|g0 j j (q (oAsI j j)<|nl)<|us<|Go.ret (Unw.ret ?_)
      cases h
      exact ⟨j,(fo rF98 j)⟩
     ·refine Go.skip<|us<|gs<|g0 j j (q (oAsI j j)<|nl)<|us<|Go.block<|?_
      obtain ⟨o,hl,h⟩:=bs h
      refine gl c98 j _ (fun (k_4_l9:Int)=>mk [(0,D 2 (.cp (u_S_Drawing d_0) 0)),(3,iv i_3_l4),(4,iv k_4_l9)] []) (fun (o:(Unit ⊕ Bool)) (p:Ex×St)=>match o with | (.inl _)=>p.1= .exit 2∧p.2.norm ([0,3],[])=mk [(0,D 2 (.cp (u_S_Drawing d_0) 0)),(3,iv i_3_l4)] [] | (.inr r2)=>p.1= .ret∧fin Try.prog cfg 98 Try.f98 [.im 2 false [.cp (u_S_Drawing d_0) 0]] p.2=some (B0 [(false,[.im 0 (V r2)])])) hl (by kernel_rfl) ?_ ?_ ?_
      ·intro o p hp e
       rcases o with u | r2<;>exact nomatch (hp.1.symm.trans e)
      ·rintro k_4_l9 o h
       unfold spec_l05Points_l9 at h
       refine gs<|gs<|g0 j j (q (oMv j j)<|q (oMv j j)<|q (oBi j j j j)<|nl)<|us<|gc h j iDec (fun hc25 h=>?_) fun hc25 h=>?_
       ·refine Go.skip<|us<|gs<|Go.block<|gs<|?_
        obtain ⟨x60,hx60,h⟩:=bs h
        obtain ⟨x67,hx67,h⟩:=bs h
        refine gd c98 j j j j (mk [(0,D 2 (.cp (u_S_Drawing d_0) 0)),(3,iv i_3_l4),(4,iv k_4_l9),(69,bv ((x60.X==x67.X)&&(x60.Y==x67.Y)))] []) (t j j (oMv j j)<|t j j (oNl j j j)<|t j j (oFA (r':=.im 2 _) j fF26_2 j j)<|t j j (oLd (cs:=[.im 2 _]) j tF23 j j)<|t j j (oMv j j)<|t j j (oIAI j hx60 sF23 j j)<|t j j (oLd (cs:=[.im 2 _,.im 2 _]) j tF155 j j)<|t j j (oMv j j)<|t j j (oNl j j j)<|t j j (oFA (r':=.im 2 _) j fF26_2 j j)<|t j j (oLd (cs:=[.im 2 _]) j tF23 j j)<|t j j (oMv j j)<|t j j (oIAI j hx67 sF23 j j)<|t j j (oLd (cs:=[.im 2 _,.im 2 _]) j tF155 j j)<|t j j (oBa j (qEF155 x60.X x60.Y x67.X x67.Y) j j j j)<|sD (by kernel_rfl))<|us<|gc h j (iAnd iEq iEq) (fun hc26 h=>?_) fun hc26 h=>?_
        ·refine gs<|g0 j j (q (oAsI j j)<|nl)<|us<|Go.ret (Unw.ret ?_)
         cases h
         exact ⟨j,(fo rF98 j)⟩
        ·refine Go.skip<|Unw.blk<|us<|g0 j j (q (oMv j j)<|q (oBi j j j j)<|q (oAsI j j)<|nl)<|Unw.nil<|?_
         cases h
         exact ⟨j,(by kernel_rfl)⟩
       ·refine Go.exit<|ux<|Unw.nil<|?_
        cases h
        exact ⟨j,(by kernel_rfl)⟩
      ·rintro ⟨e,st⟩ hp
       rcases o with u | r2
       ·dsimp only at h
        obtain ⟨he,hst⟩:=hp
        obtain rfl:e= .exit 2:=he
        refine Unw.blkx<|Unw.blk<|us<|g2 c98 j j hst (q (oMv j j)<|q (oBi j j j j)<|q (oAsI j j)<|nl)<|Unw.nil<|?_
        cases h
        exact ⟨j,(by kernel_rfl)⟩
       ·dsimp only at h
        obtain ⟨he,hfin⟩:=hp
        obtain rfl:e= .ret:=he
        cases h
        exact Unw.ret ⟨j,hfin⟩
   ·refine Go.exit<|ux<|Unw.nil<|?_
    cases h
    exact ⟨j,(by kernel_rfl)⟩
  ·rintro ⟨e,st⟩ hp
   rcases o with u | r2
   ·dsimp only at h
    obtain ⟨he,hst⟩:=hp
    obtain rfl:e= .exit 0:=he
    refine Unw.blkx<|us<|gs<|g2 c98 j j hst (q (oAsI j j)<|nl)<|us<|Go.ret (Unw.ret ?_)
    cases h
    exact fr rF98 j
   ·dsimp only at h
    obtain ⟨he,hfin⟩:=hp
    obtain rfl:e= .ret:=he
    cases h
    exact Unw.ret (Fin_ret hfin)
theorem L_spec_l01Small {c_0:Int} {r:Bool} (h:spec_l01Small c_0=some r):FX 142 [.im 2 false [.sc (.int .u8 c_0)]] (B0 [(false,[.im 0 (V r)])]):=by
 unfold spec_l01Small at h
 refine gn 9 Try.func142 rfl ?_
 refine gs<|g0 j j (q (oAsI j j)<|nl)<|us<|gs<|gX c142 j j j (mk [(2,bv ((decide (c_0≥97))&&(decide (c_0≤122))))] []) ?_ ?_
 ·refine xq (oMv j j)<|xq (oBi j j j j)<|xq (oMv j j)<|?_
  by_cases hc1:c_0≥97
  ·exact xqT rfl rfl (iDec.2 hc1) (oMv rfl rfl)<|xqT rfl rfl (iDec.2 hc1) (oBi rfl rfl rfl rfl)<|xq (oPkT rfl rfl (iDec.2 hc1) rfl)<|xq (oAsI rfl rfl)<|xn (Eq.trans (b:=(fun t_2_m1:Bool=>mk [(2,bv t_2_m1)] []) (decide (c_0≤122))) (by kernel_rfl) (congrArg (fun t_2_m1:Bool=>mk [(2,bv t_2_m1)] []) (by first | rfl | (simp [(iDec.2 hc1)];done) | (simp [(iDec.2 hc1)];omega))))
  ·exact xsgF rfl rfl (byF iDec hc1) rfl<|xsgF rfl rfl (byF iDec hc1) rfl<|xq (oPkF rfl rfl (byF iDec hc1) rfl)<|xq (oAsI rfl rfl)<|xn (Eq.trans (b:=(fun t_2_m1:Bool=>mk [(2,bv t_2_m1)] []) false) (by kernel_rfl) (congrArg (fun t_2_m1:Bool=>mk [(2,bv t_2_m1)] []) (by first | rfl | (simp [(byF iDec hc1)];done) | (simp [(byF iDec hc1)];omega))))
 ·refine us<|Go.ret (Unw.ret ?_)
  cases h
  exact fr rF142 j
theorem L_spec_l01Digit {c_0:Int} {r:Bool} (h:spec_l01Digit c_0=some r):FX 143 [.im 2 false [.sc (.int .u8 c_0)]] (B0 [(false,[.im 0 (V r)])]):=by
 unfold spec_l01Digit at h
 refine gn 9 Try.func143 rfl ?_
 refine gs<|g0 j j (q (oAsI j j)<|nl)<|us<|gs<|gX c143 j j j (mk [(2,bv ((decide (c_0≥48))&&(decide (c_0≤57))))] []) ?_ ?_
 ·refine xq (oMv j j)<|xq (oBi j j j j)<|xq (oMv j j)<|?_
  by_cases hc1:c_0≥48
  ·exact xqT rfl rfl (iDec.2 hc1) (oMv rfl rfl)<|xqT rfl rfl (iDec.2 hc1) (oBi rfl rfl rfl rfl)<|xq (oPkT rfl rfl (iDec.2 hc1) rfl)<|xq (oAsI rfl rfl)<|xn (Eq.trans (b:=(fun t_2_m1:Bool=>mk [(2,bv t_2_m1)] []) (decide (c_0≤57))) (by kernel_rfl) (congrArg (fun t_2_m1:Bool=>mk [(2,bv t_2_m1)] []) (by first | rfl | (simp [(iDec.2 hc1)];done) | (simp [(iDec.2 hc1)];omega))))
  ·exact xsgF rfl rfl (byF iDec hc1) rfl<|xsgF rfl rfl (byF iDec hc1) rfl<|xq (oPkF rfl rfl (byF iDec hc1) rfl)<|xq (oAsI rfl rfl)<|xn (Eq.trans (b:=(fun t_2_m1:Bool=>mk [(2,bv t_2_m1)] []) false) (by kernel_rfl) (congrArg (fun t_2_m1:Bool=>mk [(2,bv t_2_m1)] []) (by first | rfl | (simp [(byF iDec hc1)];done) | (simp [(byF iDec hc1)];omega))))
 ·refine us<|Go.ret (Unw.ret ?_)
  cases h
  exact fr rF143 j
theorem L_spec_l01Name {s_0:ByteArray} {r:Bool} (h:spec_l01Name s_0=some r):FX 99 [.im 2 false [Y s_0]] (B0 [(false,[.im 0 (V r)])]):=by
 unfold spec_l01Name at h
 refine gn 35 Try.func99 rfl ?_
 refine gs<|g0 j j (q (oAsI j j)<|nl)<|us<|gs<|gs<|?_
 obtain ⟨t_16_m1,hm16,h⟩:=bs h
 refine gX c99 j j j (mk [(0,sv s_0),(16,bv t_16_m1)] []) ?_ ?_
 ·refine xq (oMv j j)<|xq (oBi j j j j)<|xq (oMv j j)<|?_
  refine ic hm16 (fun hc1 hm16=>?_) fun hc1 hm16=>?_
  ·cases hm16
   exact xsgF j j (iStr.2 hc1) j<|xsgF j j (iStr.2 hc1) j<|xsgF j j (iStr.2 hc1) j<|xq (oPkT j j (iStr.2 hc1) j)<|xq (oMv j j)<|xsgF j j j j<|xsgF j j j j<|xsgF j j j j<|xsgF j j j j<|xq (oPkT j j j j)<|xn
  ·refine xqT j j (byF iStr hc1) (oMv j j)<|xqT j j (byF iStr hc1) (oLnS j j uF9 j)<|xqT j j (byF iStr hc1) (oBi j j j j)<|xq (oPkF j j (byF iStr hc1) j)<|xq (oMv j j)<|?_
   refine ic hm16 (fun hc2 hm16=>?_) fun hc2 hm16=>?_
   ·cases hm16
    exact xsgF j j (iDec.2 hc2) j<|xsgF j j (iDec.2 hc2) j<|xsgF j j (iDec.2 hc2) j<|xsgF j j (iDec.2 hc2) j<|xq (oPkT j j (iDec.2 hc2) j)<|xn
   ·obtain ⟨x13,hx13,hm16⟩:=bs hm16
    obtain ⟨x14,hx14,hm16⟩:=bs hm16
    cases hm16
    exact xqT j j (byF iDec hc2) (oMv j j)<|xqT j j (byF iDec hc2) (oIx j hx13 uF9 j j)<|xqT j j (byF iDec hc2) (oCa (xs:=[.v false [.im 0 _]]) (vs:=[(false,[.im 0 _])]) (v:=.v false [.im 0 _]) (L_spec_l01Small hx14) (.inl j) j kF142_5 j (ppC j pp0) j j pb0 j j j)<|xqT j j (byF iDec hc2) (oUn j j j)<|xq (oPkF j j (byF iDec hc2) j)<|xn
 ·refine us<|gc h j iR (fun hc3 h=>?_) fun hc3 h=>?_
  ·refine gs<|g0 j j (q (oAsI j j)<|nl)<|us<|Go.ret (Unw.ret ?_)
   cases h
   exact fr rF99 j
  ·refine Go.skip<|us<|gs<|gs<|g0 j j (q (oAsI j j)<|nl)<|us<|Go.block<|?_
   obtain ⟨o,hl,h⟩:=bs h
   refine gl c99 j _ (fun (i_3_l4:Int)=>mk [(0,sv s_0),(3,iv i_3_l4)] []) (fun (o:(Unit ⊕ Bool)) (p:Ex×St)=>match o with | (.inl _)=>p.1= .exit 0∧p.2.norm ([],[])=mk [] [] | (.inr r2)=>p.1= .ret∧fin Try.prog cfg 99 Try.f99 [.im 2 false [Y s_0]] p.2=some (B0 [(false,[.im 0 (V r2)])])) hl (by kernel_rfl) ?_ ?_ ?_
   ·intro o p hp e
    rcases o with u | r2<;>exact nomatch (hp.1.symm.trans e)
   ·rintro i_3_l4 o h
    unfold spec_l01Name_l4 at h
    refine gs<|gs<|g0 j j (q (oMv j j)<|q (oMv j j)<|q (oLnS j j uF9 j)<|q (oBi j j j j)<|nl)<|us<|gc h j iDec (fun hc12 h=>?_) fun hc12 h=>?_
    ·refine Go.skip<|us<|gs<|Go.block<|gs<|?_
     obtain ⟨x25,hx25,h⟩:=bs h
     obtain ⟨x26,hx26,h⟩:=bs h
     obtain ⟨t_34_m6,hm15,h⟩:=bs h
     refine gX c99 j j j (mk [(0,sv s_0),(3,iv i_3_l4),(34,bv t_34_m6)] []) ?_ ?_
     ·refine xq (oMv j j)<|xq (oMv j j)<|xq (oIx j hx25 uF9 j j)<|xq (oCa (xs:=[.v false [.im 0 _]]) (vs:=[(false,[.im 0 _])]) (v:=.v false [.im 0 _]) (L_spec_l01Small hx26) (.inl j) j kF142_5 j (ppC j pp0) j j pb0 j j j)<|xq (oUn j j j)<|xq (oMv j j)<|?_
      refine ic hm15 (fun hc13 hm15=>?_) fun hc13 hm15=>?_
      ·cases hm15
       exact xsgF j j (nF (iR.2 hc13)) j<|xsgF j j (nF (iR.2 hc13)) j<|xsgF j j (nF (iR.2 hc13)) j<|xsgF j j (nF (iR.2 hc13)) j<|xsgF j j (nF (iR.2 hc13)) j<|xq (oPkF j j (nF (iR.2 hc13)) j)<|xn
      ·obtain ⟨x31,hx31,hm15⟩:=bs hm15
       obtain ⟨x32,hx32,hm15⟩:=bs hm15
       cases hm15
       exact xqT j j (nT (byF iR hc13)) (oMv j j)<|xqT j j (nT (byF iR hc13)) (oMv j j)<|xqT j j (nT (byF iR hc13)) (oIx j hx31 uF9 j j)<|xqT j j (nT (byF iR hc13)) (oCa (xs:=[.v false [.im 0 _]]) (vs:=[(false,[.im 0 _])]) (v:=.v false [.im 0 _]) (L_spec_l01Digit hx32) (.inl j) j kF143_5 j (ppC j pp0) j j pb0 j j j)<|xqT j j (nT (byF iR hc13)) (oUn j j j)<|xq (oPkT j j (nT (byF iR hc13)) j)<|xn
     ·refine us<|gc h j iR (fun hc14 h=>?_) fun hc14 h=>?_
      ·refine gs<|g0 j j (q (oAsI j j)<|nl)<|us<|Go.ret (Unw.ret ?_)
       cases h
       exact ⟨j,(fo rF99 j)⟩
      ·refine Go.skip<|Unw.blk<|us<|g0 j j (q (oMv j j)<|q (oBi j j j j)<|q (oAsI j j)<|nl)<|Unw.nil<|?_
       cases h
       exact ⟨j,(by kernel_rfl)⟩
    ·refine Go.exit<|ux<|Unw.nil<|?_
     cases h
     exact ⟨j,(by kernel_rfl)⟩
   ·rintro ⟨e,st⟩ hp
    rcases o with u | r2
    ·dsimp only at h
     obtain ⟨he,hst⟩:=hp
     obtain rfl:e= .exit 0:=he
     refine Unw.blkx<|us<|gs<|g2 c99 j j hst (q (oAsI j j)<|nl)<|us<|Go.ret (Unw.ret ?_)
     cases h
     exact fr rF99 j
    ·dsimp only at h
     obtain ⟨he,hfin⟩:=hp
     obtain rfl:e= .ret:=he
     cases h
     exact Unw.ret (Fin_ret hfin)
theorem L_spec_l05Ring {d_0:S_Drawing} {ring_1:(List Int)} {r:((List S_Point)×Bool)} (h:spec_l05Ring d_0 ring_1=some r):FX 100 [.im 2 false [.cp (u_S_Drawing d_0) 0],.im 2 false [W 1 eI ring_1]] (B0 [(false,[.ow 0 2 (List.map e_S_Point r.1)]),(false,[.im 0 (V r.2)])]):=by
 unfold spec_l05Ring at h
 refine gn 41 Try.func100 rfl ?_
 refine gs<|g0 j j (q (oAsN j j eF23)<|q (oAsI j j)<|nl)<|us<|gs<|g0 j j (q (oBS (es:=List.map e_S_Point ([]:List S_Point)) j sF23 j pt0 (flat0 j fun _=>j))<|q (oAsO j j j j j)<|nl)<|us<|gs<|gs<|g0 j j (q (oAsI j j)<|nl)<|us<|Go.block<|?_
 obtain ⟨o,hl,h⟩:=bs h
 refine gl c100 j _ (fun (s:(Int×(List S_Point)))=>match s with | (i_7_l3,out_o6_l3)=>mk [(0,D 2 (.cp (u_S_Drawing d_0) 0)),(1,D 2 (W 1 eI ring_1)),(6,H 6 0),(7,iv i_7_l3)] [(6,Oc [Z (W 2 e_S_Point out_o6_l3)])]) (fun (o:((List S_Point) ⊕ ((List S_Point)×Bool))) (p:Ex×St)=>match o with | (.inl out_o6_e0_3)=>p.1= .exit 0∧p.2.norm ([6],[6])=mk [(6,H 6 0)] [(6,Oc [Z (W 2 e_S_Point out_o6_e0_3)])] | (.inr r2)=>p.1= .ret∧fin Try.prog cfg 100 Try.f100 [.im 2 false [.cp (u_S_Drawing d_0) 0],.im 2 false [W 1 eI ring_1]] p.2=some (B0 [(false,[.ow 0 2 (List.map e_S_Point r2.1)]),(false,[.im 0 (V r2.2)])])) hl (by kernel_rfl) ?_ ?_ ?_
 ·intro o p hp e
  rcases o with out_o6_e0_3 | r2<;>exact nomatch (hp.1.symm.trans e)
 ·rintro ⟨i_7_l3,out_o6_l3⟩ o h
  unfold spec_l05Ring_l3 at h
  dsimp only at h
  refine gs<|gs<|g0 j j (q (oMv j j)<|q (oMv j j)<|q (oLnI j j uF28 j)<|q (oBi j j j j)<|nl)<|us<|gc h j iDec (fun hc5 h=>?_) fun hc5 h=>?_
  ·refine Go.skip<|us<|gs<|Go.block<|gs<|gs<|?_
   obtain ⟨x17,hx17,h⟩:=bs h
   obtain ⟨x25,hx25,h⟩:=bs h
   refine gd c100 j j j j (mk [(0,D 2 (.cp (u_S_Drawing d_0) 0)),(1,D 2 (W 1 eI ring_1)),(6,H 6 0),(7,iv i_7_l3),(26,bv (!x25))] [(6,Oc [Z (W 2 e_S_Point out_o6_l3)])]) (t j j (oMv j j)<|t j j (oMv j j)<|t j j (oIAI j hx17 sF28 j j)<|t j j (oLd (cs:=[.im 2 _]) j tF2 j j)<|t j j (oMv j j)<|t j j (oNl j j j)<|t j j (oFA (r':=.im 2 _) j fF26_2 j j)<|t j j (oLd (cs:=[.im 2 _]) j tF23 j j)<|t j j (oLnI j j uF23 j)<|t j j (oBi j j j j)<|sS (dN z100 j (oCa (xs:=[.v false [.im 2 _],.v false [.im 0 _],.v false [.im 0 _]]) (vs:=[(false,[.im 0 _])]) (v:=.v false [.im 0 _]) (L_spec_l00In hx25) (.inl j) j kF97_2_2_2 j (ppC j (ppC j (ppC j pp0))) j j pb0 j j j)) trivial (t j j (oUn j j j)<|sD (by kernel_rfl)))<|us<|?_
   by_cases hc6:x25=true
   ·rw [if_pos hc6] at h
    refine gF j (nF (iR.2 hc6))<|Go.skip<|us<|?_
    obtain ⟨x34,hx34,h⟩:=bs h
    obtain ⟨x36,hx36,h⟩:=bs h
    obtain ⟨x39,hx39,h⟩:=bs h
    refine gd c100 j j j j (mk [(0,D 2 (.cp (u_S_Drawing d_0) 0)),(1,D 2 (W 1 eI ring_1)),(6,H 6 0),(7,iv i_7_l3)] [(6,Oc [Z (W 2 e_S_Point x39)])]) (t j j (oMv j j)<|t j j (oMv j j)<|t j j (oNl j j j)<|t j j (oFA (r':=.im 2 _) j fF26_2 j j)<|t j j (oLd (cs:=[.im 2 _]) j tF23 j j)<|t j j (oMv j j)<|t j j (oMv j j)<|t j j (oIAI j hx34 sF28 j j)<|t j j (oLd (cs:=[.im 2 _]) j tF2 j j)<|t j j (oIAI j hx36 sF23 j j)<|t j j (oLd (cs:=[.im 2 _,.im 2 _]) j tF155 j j)<|sS (dN z100 j (oBS (es:=List.map e_S_Point ([x36]:List S_Point)) j sF23 j (ptC j (fxI (fxI fx0)) j pt0) (flat0 j fun _=>j))) trivial (sS (dN z100 j (oApO (en:=e_S_Point) (M:=([x36]:List S_Point)) j hx39 j sF23 j j uF23 (.inl ⟨_,j⟩) j j j j (el_own j j) (flat0 j fun _=>j))) trivial (sS (dN z100 j (oAsO j j j j j)) trivial (sD (by kernel_rfl)))))<|Unw.blk<|us<|g0 j j (q (oMv j j)<|q (oBi j j j j)<|q (oAsI j j)<|nl)<|Unw.nil<|?_
    cases h
    exact ⟨j,(by kernel_rfl)⟩
   ·rw [if_neg hc6] at h
    refine gT j (nT (byF iR hc6))<|gs<|g0 j j (q (oAsN j j eF23)<|q (oAsI j j)<|nl)<|us<|Go.ret (Unw.ret ?_)
    cases h
    exact ⟨j,(fo rF100 j)⟩
  ·refine Go.exit<|ux<|Unw.nil<|?_
   cases h
   exact ⟨j,(by kernel_rfl)⟩
 ·rintro ⟨e,st⟩ hp
  rcases o with out_o6_e0_3 | r2
  ·dsimp only at h
   obtain ⟨he,hst⟩:=hp
   obtain rfl:e= .exit 0:=he
   refine Unw.blkx<|us<|gs<|g2 c100 j j hst (q (oMv j j)<|q (oAsO j j j j j)<|q (oAsI j j)<|nl)<|us<|Go.ret (Unw.ret ?_)
   cases h
   exact fr rF100 j
  ·dsimp only at h
   obtain ⟨he,hfin⟩:=hp
   obtain rfl:e= .ret:=he
   cases h
   exact Unw.ret (Fin_ret hfin)
theorem L_spec_l02Ok {p_0:S_Point} {r:Bool} (h:spec_l02Ok p_0=some r):FX 144 [.im 2 true (u_S_Point p_0)] (B0 [(false,[.im 0 (V r)])]):=by
 unfold spec_l02Ok at h
 refine gn 11 Try.func144 rfl ?_
 refine gs<|g0 j j (q (oBx j tF155 j (tkI (tkI tk0)))<|q (oAsI j j)<|nl)<|us<|gs<|?_
 obtain ⟨x5,hx5,h⟩:=bs h
 obtain ⟨t_2_m1,hm2,h⟩:=bs h
 refine gX c144 j j j (mk [(2,bv t_2_m1)] []) ?_ ?_
 ·refine xq (oFA (r':=.mp 1 0 0) j fF155_0 j j)<|xq (oLd (cs:=[.im 0 _]) j tF2 j j)<|xq (oCa (xs:=[.v false [.im 0 _],.v false [.im 0 _],.v false [.im 0 _]]) (vs:=[(false,[.im 0 _])]) (v:=.v false [.im 0 _]) (L_spec_l00In hx5) (.inl j) j kF97_2_2_2 j (ppC j (ppC j (ppC j pp0))) j j pb0 j j j)<|xq (oMv j j)<|?_
  refine ic hm2 (fun hc1 hm2=>?_) fun hc1 hm2=>?_
  ·obtain ⟨x9,hx9,hm2⟩:=bs hm2
   cases hm2
   exact xqT j j (iR.2 hc1) (oFA (r':=.mp 1 0 1) j fF155_1 j j)<|xqT j j (iR.2 hc1) (oLd (cs:=[.im 0 _]) j tF2 j j)<|xqT j j (iR.2 hc1) (oCa (xs:=[.v false [.im 0 _],.v false [.im 0 _],.v false [.im 0 _]]) (vs:=[(false,[.im 0 _])]) (v:=.v false [.im 0 _]) (L_spec_l00In hx9) (.inl j) j kF97_2_2_2 j (ppC j (ppC j (ppC j pp0))) j j pb0 j j j)<|xq (oPkT j j (iR.2 hc1) j)<|xq (oAsI j j)<|xn
  ·cases hm2
   exact xsgF j j (byF iR hc1) j<|xsgF j j (byF iR hc1) j<|xsgF j j (byF iR hc1) j<|xq (oPkF j j (byF iR hc1) j)<|xq (oAsI j j)<|xn
 ·refine us<|Go.ret (Unw.ret ?_)
  cases h
  exact fr rF144 j
theorem L_spec_l02Cross {a_0:S_Point} {b_1:S_Point} {c_2:S_Point} {r:Int} (h:spec_l02Cross a_0 b_1 c_2=some r):FX 201 [.im 2 true (u_S_Point a_0),.im 2 true (u_S_Point b_1),.im 2 true (u_S_Point c_2)] (B0 [(false,[.im 0 (I r)])]):=by
 unfold spec_l02Cross at h
 refine gn 30 Try.func201 rfl ?_
 refine gs<|g0 j j (q (oBx j tF155 j (tkI (tkI tk0)))<|q (oBx j tF155 j (tkI (tkI tk0)))<|q (oBx j tF155 j (tkI (tkI tk0)))<|q (oAsI j j)<|nl)<|us<|gs<|g0 j j (q (oFA (r':=.mp 4 0 0) j fF155_0 j j)<|q (oLd (cs:=[.im 0 _]) j tF2 j j)<|q (oFA (r':=.mp 3 0 0) j fF155_0 j j)<|q (oLd (cs:=[.im 0 _]) j tF2 j j)<|q (oBi j j j j)<|q (oFA (r':=.mp 5 0 1) j fF155_1 j j)<|q (oLd (cs:=[.im 0 _]) j tF2 j j)<|q (oFA (r':=.mp 3 0 1) j fF155_1 j j)<|q (oLd (cs:=[.im 0 _]) j tF2 j j)<|q (oBi j j j j)<|q (oBi j j j j)<|q (oFA (r':=.mp 4 0 1) j fF155_1 j j)<|q (oLd (cs:=[.im 0 _]) j tF2 j j)<|q (oFA (r':=.mp 3 0 1) j fF155_1 j j)<|q (oLd (cs:=[.im 0 _]) j tF2 j j)<|q (oBi j j j j)<|q (oFA (r':=.mp 5 0 0) j fF155_0 j j)<|q (oLd (cs:=[.im 0 _]) j tF2 j j)<|q (oFA (r':=.mp 3 0 0) j fF155_0 j j)<|q (oLd (cs:=[.im 0 _]) j tF2 j j)<|q (oBi j j j j)<|q (oBi j j j j)<|q (oBi j j j j)<|q (oAsI j j)<|nl)<|us<|Go.ret (Unw.ret ?_)
 cases h
 exact fr rF201 j
theorem L_spec_l02Side {a_0:S_Point} {b_1:S_Point} {c_2:S_Point} {r:Int} (h:spec_l02Side a_0 b_1 c_2=some r):FX 175 [.im 2 true (u_S_Point a_0),.im 2 true (u_S_Point b_1),.im 2 true (u_S_Point c_2)] (B0 [(false,[.im 0 (I r)])]):=by
 unfold spec_l02Side at h
 refine gn 16 Try.func175 rfl ?_
 refine gs<|g0 j j (q (oBx j tF155 j (tkI (tkI tk0)))<|q (oBx j tF155 j (tkI (tkI tk0)))<|q (oBx j tF155 j (tkI (tkI tk0)))<|q (oAsI j j)<|nl)<|us<|gs<|?_
 obtain ⟨x11,hx11,h⟩:=bs h
 refine g0 j j (q (oLd (cs:=[.im 0 _,.im 0 _]) j tF155 j j)<|q (oLd (cs:=[.im 0 _,.im 0 _]) j tF155 j j)<|q (oLd (cs:=[.im 0 _,.im 0 _]) j tF155 j j)<|q (oCa (xs:=[.v true [.im 0 _,.im 0 _],.v true [.im 0 _,.im 0 _],.v true [.im 0 _,.im 0 _]]) (vs:=[(false,[.im 0 _])]) (v:=.v false [.im 0 _]) (L_spec_l02Cross hx11) (.inl j) j kF201_155_155_155 j (ppC j (ppC j (ppC j pp0))) j j pb0 j j j)<|q (oAsI j j)<|nl)<|us<|gs<|gs<|g0 j j (q (oMv j j)<|q (oBi j j j j)<|nl)<|us<|gc h j iDec (fun hc1 h=>?_) fun hc1 h=>?_
 ·refine gs<|g0 j j (q (oAsI j j)<|nl)<|us<|Go.ret (Unw.ret ?_)
  cases h
  exact fr rF175 j
 ·refine Go.skip<|us<|gs<|gs<|g0 j j (q (oMv j j)<|q (oBi j j j j)<|nl)<|us<|gc h j iDec (fun hc2 h=>?_) fun hc2 h=>?_
  ·refine gs<|g0 j j (q (oAsI j j)<|nl)<|us<|Go.ret (Unw.ret ?_)
   cases h
   exact fr rF175 j
  ·refine Go.skip<|us<|gs<|g0 j j (q (oAsI j j)<|nl)<|us<|Go.ret (Unw.ret ?_)
   cases h
   exact fr rF175 j
theorem L_spec_l00Min {a_0:Int} {b_1:Int} {r:Int} (h:spec_l00Min a_0 b_1=some r):FX 160 [.im 2 false [I a_0],.im 2 false [I b_1]] (B0 [(false,[.im 0 (I r)])]):=by
 unfold spec_l00Min at h
 refine gn 10 Try.func160 rfl ?_
 refine gs<|g0 j j (q (oAsI j j)<|nl)<|us<|gs<|gs<|g0 j j (q (oMv j j)<|q (oMv j j)<|q (oBi j j j j)<|nl)<|us<|gc h j iDec (fun hc1 h=>?_) fun hc1 h=>?_
 ·refine gs<|g0 j j (q (oMv j j)<|q (oAsI j j)<|nl)<|us<|Go.ret (Unw.ret ?_)
  cases h
  exact fr rF160 j
 ·refine Go.skip<|us<|gs<|g0 j j (q (oMv j j)<|q (oAsI j j)<|nl)<|us<|Go.ret (Unw.ret ?_)
  cases h
  exact fr rF160 j
theorem L_spec_l00Max {a_0:Int} {b_1:Int} {r:Int} (h:spec_l00Max a_0 b_1=some r):FX 161 [.im 2 false [I a_0],.im 2 false [I b_1]] (B0 [(false,[.im 0 (I r)])]):=by
 unfold spec_l00Max at h
 refine gn 10 Try.func161 rfl ?_
 refine gs<|g0 j j (q (oAsI j j)<|nl)<|us<|gs<|gs<|g0 j j (q (oMv j j)<|q (oMv j j)<|q (oBi j j j j)<|nl)<|us<|gc h j iDec (fun hc1 h=>?_) fun hc1 h=>?_
 ·refine gs<|g0 j j (q (oMv j j)<|q (oAsI j j)<|nl)<|us<|Go.ret (Unw.ret ?_)
  cases h
  exact fr rF161 j
 ·refine Go.skip<|us<|gs<|g0 j j (q (oMv j j)<|q (oAsI j j)<|nl)<|us<|Go.ret (Unw.ret ?_)
  cases h
  exact fr rF161 j
theorem L_spec_l02On {a_0:S_Point} {b_1:S_Point} {p_2:S_Point} {r:Bool} (h:spec_l02On a_0 b_1 p_2=some r):FX 145 [.im 2 true (u_S_Point a_0),.im 2 true (u_S_Point b_1),.im 2 true (u_S_Point p_2)] (B0 [(false,[.im 0 (V r)])]):=by
 unfold spec_l02On at h
 refine gn 42 Try.func145 rfl ?_
 refine gs<|g0 j j (q (oBx j tF155 j (tkI (tkI tk0)))<|q (oBx j tF155 j (tkI (tkI tk0)))<|q (oBx j tF155 j (tkI (tkI tk0)))<|q (oAsI j j)<|nl)<|us<|gs<|?_
 obtain ⟨x10,hx10,h⟩:=bs h
 obtain ⟨t_6_m1,hm3,h⟩:=bs h
 refine gd c145 j j j j (mk [(6,bv t_6_m1)] []) ?_ ?_
 ·refine t j j (oLd (cs:=[.im 0 _,.im 0 _]) j tF155 j j)<|t j j (oLd (cs:=[.im 0 _,.im 0 _]) j tF155 j j)<|?_
  refine ic hm3 (fun hc1 hm3=>?_) fun hc1 hm3=>?_
  ·obtain ⟨x19,hx19,hm3⟩:=bs hm3
   obtain ⟨x24,hx24,hm3⟩:=bs hm3
   obtain ⟨x25,hx25,hm3⟩:=bs hm3
   refine ic hm3 (fun hc2 hm3=>?_) fun hc2 hm3=>?_
   ·obtain ⟨x34,hx34,hm3⟩:=bs hm3
    obtain ⟨x39,hx39,hm3⟩:=bs hm3
    obtain ⟨x40,hx40,hm3⟩:=bs hm3
    cases hm3
    exact t j j (oLd (cs:=[.im 0 _,.im 0 _]) j tF155 j j)<|sS (dN z145 j (oCa (xs:=[.v true [.im 0 _,.im 0 _],.v true [.im 0 _,.im 0 _],.v true [.im 0 _,.im 0 _]]) (vs:=[(false,[.im 0 _])]) (v:=.v false [.im 0 _]) (L_spec_l02Side hx10) (.inl j) j kF175_155_155_155 j (ppC j (ppC j (ppC j pp0))) j j pb0 j j j)) trivial (t j j (oBi j j j j)<|t j j (oMv j j)<|tT j j j j (iEq.2 hc1) (oFA (r':=.mp 5 0 0) j fF155_0 j j)<|tT j j j j (iEq.2 hc1) (oLd (cs:=[.im 0 _]) j tF2 j j)<|tT j j j j (iEq.2 hc1) (oFA (r':=.mp 3 0 0) j fF155_0 j j)<|tT j j j j (iEq.2 hc1) (oLd (cs:=[.im 0 _]) j tF2 j j)<|tT j j j j (iEq.2 hc1) (oFA (r':=.mp 4 0 0) j fF155_0 j j)<|tT j j j j (iEq.2 hc1) (oLd (cs:=[.im 0 _]) j tF2 j j)<|tT j j j j (iEq.2 hc1) (oFA (r':=.mp 3 0 0) j fF155_0 j j)<|tT j j j j (iEq.2 hc1) (oLd (cs:=[.im 0 _]) j tF2 j j)<|tT j j j j (iEq.2 hc1) (oFA (r':=.mp 4 0 0) j fF155_0 j j)<|tT j j j j (iEq.2 hc1) (oLd (cs:=[.im 0 _]) j tF2 j j)<|sS (dT z145 j j j (iEq.2 hc1) (oCa (xs:=[.v false [.im 0 _],.v false [.im 0 _]]) (vs:=[(false,[.im 0 _])]) (v:=.v false [.im 0 _]) (L_spec_l00Min hx19) (.inl j) j kF160_2_2 j (ppC j (ppC j pp0)) j j pb0 j j j)) trivial (sS (dT z145 j j j (iEq.2 hc1) (oCa (xs:=[.v false [.im 0 _],.v false [.im 0 _]]) (vs:=[(false,[.im 0 _])]) (v:=.v false [.im 0 _]) (L_spec_l00Max hx24) (.inl j) j kF161_2_2 j (ppC j (ppC j pp0)) j j pb0 j j j)) trivial (sS (dT z145 j j j (iEq.2 hc1) (oCa (xs:=[.v false [.im 0 _],.v false [.im 0 _],.v false [.im 0 _]]) (vs:=[(false,[.im 0 _])]) (v:=.v false [.im 0 _]) (L_spec_l00In hx25) (.inl j) j kF97_2_2_2 j (ppC j (ppC j (ppC j pp0))) j j pb0 j j j)) trivial (t j j (oPkT j j (iEq.2 hc1) j)<|t j j (oMv j j)<|tT j j j j (iR.2 hc2) (oFA (r':=.mp 5 0 1) j fF155_1 j j)<|tT j j j j (iR.2 hc2) (oLd (cs:=[.im 0 _]) j tF2 j j)<|tT j j j j (iR.2 hc2) (oFA (r':=.mp 3 0 1) j fF155_1 j j)<|tT j j j j (iR.2 hc2) (oLd (cs:=[.im 0 _]) j tF2 j j)<|tT j j j j (iR.2 hc2) (oFA (r':=.mp 4 0 1) j fF155_1 j j)<|tT j j j j (iR.2 hc2) (oLd (cs:=[.im 0 _]) j tF2 j j)<|tT j j j j (iR.2 hc2) (oFA (r':=.mp 3 0 1) j fF155_1 j j)<|tT j j j j (iR.2 hc2) (oLd (cs:=[.im 0 _]) j tF2 j j)<|tT j j j j (iR.2 hc2) (oFA (r':=.mp 4 0 1) j fF155_1 j j)<|tT j j j j (iR.2 hc2) (oLd (cs:=[.im 0 _]) j tF2 j j)<|sS (dT z145 j j j (iR.2 hc2) (oCa (xs:=[.v false [.im 0 _],.v false [.im 0 _]]) (vs:=[(false,[.im 0 _])]) (v:=.v false [.im 0 _]) (L_spec_l00Min hx34) (.inl j) j kF160_2_2 j (ppC j (ppC j pp0)) j j pb0 j j j)) trivial (sS (dT z145 j j j (iR.2 hc2) (oCa (xs:=[.v false [.im 0 _],.v false [.im 0 _]]) (vs:=[(false,[.im 0 _])]) (v:=.v false [.im 0 _]) (L_spec_l00Max hx39) (.inl j) j kF161_2_2 j (ppC j (ppC j pp0)) j j pb0 j j j)) trivial (sS (dT z145 j j j (iR.2 hc2) (oCa (xs:=[.v false [.im 0 _],.v false [.im 0 _],.v false [.im 0 _]]) (vs:=[(false,[.im 0 _])]) (v:=.v false [.im 0 _]) (L_spec_l00In hx40) (.inl j) j kF97_2_2_2 j (ppC j (ppC j (ppC j pp0))) j j pb0 j j j)) trivial (t j j (oPkT j j (iR.2 hc2) j)<|sS (dN z145 j (oAsI j j)) trivial (sD (by kernel_rfl)))))))))
   ·cases hm3
    exact t j j (oLd (cs:=[.im 0 _,.im 0 _]) j tF155 j j)<|sS (dN z145 j (oCa (xs:=[.v true [.im 0 _,.im 0 _],.v true [.im 0 _,.im 0 _],.v true [.im 0 _,.im 0 _]]) (vs:=[(false,[.im 0 _])]) (v:=.v false [.im 0 _]) (L_spec_l02Side hx10) (.inl j) j kF175_155_155_155 j (ppC j (ppC j (ppC j pp0))) j j pb0 j j j)) trivial (t j j (oBi j j j j)<|t j j (oMv j j)<|tT j j j j (iEq.2 hc1) (oFA (r':=.mp 5 0 0) j fF155_0 j j)<|tT j j j j (iEq.2 hc1) (oLd (cs:=[.im 0 _]) j tF2 j j)<|tT j j j j (iEq.2 hc1) (oFA (r':=.mp 3 0 0) j fF155_0 j j)<|tT j j j j (iEq.2 hc1) (oLd (cs:=[.im 0 _]) j tF2 j j)<|tT j j j j (iEq.2 hc1) (oFA (r':=.mp 4 0 0) j fF155_0 j j)<|tT j j j j (iEq.2 hc1) (oLd (cs:=[.im 0 _]) j tF2 j j)<|tT j j j j (iEq.2 hc1) (oFA (r':=.mp 3 0 0) j fF155_0 j j)<|tT j j j j (iEq.2 hc1) (oLd (cs:=[.im 0 _]) j tF2 j j)<|tT j j j j (iEq.2 hc1) (oFA (r':=.mp 4 0 0) j fF155_0 j j)<|tT j j j j (iEq.2 hc1) (oLd (cs:=[.im 0 _]) j tF2 j j)<|sS (dT z145 j j j (iEq.2 hc1) (oCa (xs:=[.v false [.im 0 _],.v false [.im 0 _]]) (vs:=[(false,[.im 0 _])]) (v:=.v false [.im 0 _]) (L_spec_l00Min hx19) (.inl j) j kF160_2_2 j (ppC j (ppC j pp0)) j j pb0 j j j)) trivial (sS (dT z145 j j j (iEq.2 hc1) (oCa (xs:=[.v false [.im 0 _],.v false [.im 0 _]]) (vs:=[(false,[.im 0 _])]) (v:=.v false [.im 0 _]) (L_spec_l00Max hx24) (.inl j) j kF161_2_2 j (ppC j (ppC j pp0)) j j pb0 j j j)) trivial (sS (dT z145 j j j (iEq.2 hc1) (oCa (xs:=[.v false [.im 0 _],.v false [.im 0 _],.v false [.im 0 _]]) (vs:=[(false,[.im 0 _])]) (v:=.v false [.im 0 _]) (L_spec_l00In hx25) (.inl j) j kF97_2_2_2 j (ppC j (ppC j (ppC j pp0))) j j pb0 j j j)) trivial (t j j (oPkT j j (iEq.2 hc1) j)<|t j j (oMv j j)<|tF j j j j (byF iR hc2) j<|tF j j j j (byF iR hc2) j<|tF j j j j (byF iR hc2) j<|tF j j j j (byF iR hc2) j<|tF j j j j (byF iR hc2) j<|tF j j j j (byF iR hc2) j<|tF j j j j (byF iR hc2) j<|tF j j j j (byF iR hc2) j<|tF j j j j (byF iR hc2) j<|tF j j j j (byF iR hc2) j<|sS (dF j j j (byF iR hc2) j) trivial (sS (dF j j j (byF iR hc2) j) trivial (sS (dF j j j (byF iR hc2) j) trivial (t j j (oPkF j j (byF iR hc2) j)<|sS (dN z145 j (oAsI j j)) trivial (sD (by kernel_rfl)))))))))
  ·cases hm3
   exact t j j (oLd (cs:=[.im 0 _,.im 0 _]) j tF155 j j)<|sS (dN z145 j (oCa (xs:=[.v true [.im 0 _,.im 0 _],.v true [.im 0 _,.im 0 _],.v true [.im 0 _,.im 0 _]]) (vs:=[(false,[.im 0 _])]) (v:=.v false [.im 0 _]) (L_spec_l02Side hx10) (.inl j) j kF175_155_155_155 j (ppC j (ppC j (ppC j pp0))) j j pb0 j j j)) trivial (t j j (oBi j j j j)<|t j j (oMv j j)<|tF j j j j (byF iEq hc1) j<|tF j j j j (byF iEq hc1) j<|tF j j j j (byF iEq hc1) j<|tF j j j j (byF iEq hc1) j<|tF j j j j (byF iEq hc1) j<|tF j j j j (byF iEq hc1) j<|tF j j j j (byF iEq hc1) j<|tF j j j j (byF iEq hc1) j<|tF j j j j (byF iEq hc1) j<|tF j j j j (byF iEq hc1) j<|sS (dF j j j (byF iEq hc1) j) trivial (sS (dF j j j (byF iEq hc1) j) trivial (sS (dF j j j (byF iEq hc1) j) trivial (t j j (oPkF j j (byF iEq hc1) j)<|t j j (oMv j j)<|tF j j j j j j<|tF j j j j j j<|tF j j j j j j<|tF j j j j j j<|tF j j j j j j<|tF j j j j j j<|tF j j j j j j<|tF j j j j j j<|tF j j j j j j<|tF j j j j j j<|sS (dF j j j j j) trivial (sS (dF j j j j j) trivial (sS (dF j j j j j) trivial (t j j (oPkF j j j j)<|sS (dN z145 j (oAsI j j)) trivial (sD (by kernel_rfl)))))))))
 ·refine us<|Go.ret (Unw.ret ?_)
  cases h
  exact fr rF145 j
theorem L_spec_l02Crosses {a_0:S_Point} {b_1:S_Point} {c_2:S_Point} {d_3:S_Point} {r:Bool} (h:spec_l02Crosses a_0 b_1 c_2 d_3=some r):FX 176 [.im 2 true (u_S_Point a_0),.im 2 true (u_S_Point b_1),.im 2 true (u_S_Point c_2),.im 2 true (u_S_Point d_3)] (B0 [(false,[.im 0 (V r)])]):=by
 unfold spec_l02Crosses at h
 refine gn 31 Try.func176 rfl ?_
 refine gs<|g0 j j (q (oBx j tF155 j (tkI (tkI tk0)))<|q (oBx j tF155 j (tkI (tkI tk0)))<|q (oBx j tF155 j (tkI (tkI tk0)))<|q (oBx j tF155 j (tkI (tkI tk0)))<|q (oAsI j j)<|nl)<|us<|gs<|?_
 obtain ⟨x12,hx12,h⟩:=bs h
 obtain ⟨x16,hx16,h⟩:=bs h
 obtain ⟨t_8_m1,hm2,h⟩:=bs h
 refine gd c176 j j j j (mk [(8,bv t_8_m1)] []) ?_ ?_
 ·refine t j j (oLd (cs:=[.im 0 _,.im 0 _]) j tF155 j j)<|t j j (oLd (cs:=[.im 0 _,.im 0 _]) j tF155 j j)<|t j j (oLd (cs:=[.im 0 _,.im 0 _]) j tF155 j j)<|t j j (oLd (cs:=[.im 0 _,.im 0 _]) j tF155 j j)<|t j j (oLd (cs:=[.im 0 _,.im 0 _]) j tF155 j j)<|?_
  refine ic hm2 (fun hc1 hm2=>?_) fun hc1 hm2=>?_
  ·obtain ⟨x23,hx23,hm2⟩:=bs hm2
   obtain ⟨x27,hx27,hm2⟩:=bs hm2
   cases hm2
   exact t j j (oLd (cs:=[.im 0 _,.im 0 _]) j tF155 j j)<|sS (dN z176 j (oCa (xs:=[.v true [.im 0 _,.im 0 _],.v true [.im 0 _,.im 0 _],.v true [.im 0 _,.im 0 _]]) (vs:=[(false,[.im 0 _])]) (v:=.v false [.im 0 _]) (L_spec_l02Side hx12) (.inl j) j kF175_155_155_155 j (ppC j (ppC j (ppC j pp0))) j j pb0 j j j)) trivial (sS (dN z176 j (oCa (xs:=[.v true [.im 0 _,.im 0 _],.v true [.im 0 _,.im 0 _],.v true [.im 0 _,.im 0 _]]) (vs:=[(false,[.im 0 _])]) (v:=.v false [.im 0 _]) (L_spec_l02Side hx16) (.inl j) j kF175_155_155_155 j (ppC j (ppC j (ppC j pp0))) j j pb0 j j j)) trivial (t j j (oBi j j j j)<|t j j (oBi j j j j)<|t j j (oMv j j)<|tT j j j j (iDec.2 hc1) (oLd (cs:=[.im 0 _,.im 0 _]) j tF155 j j)<|tT j j j j (iDec.2 hc1) (oLd (cs:=[.im 0 _,.im 0 _]) j tF155 j j)<|tT j j j j (iDec.2 hc1) (oLd (cs:=[.im 0 _,.im 0 _]) j tF155 j j)<|tT j j j j (iDec.2 hc1) (oLd (cs:=[.im 0 _,.im 0 _]) j tF155 j j)<|tT j j j j (iDec.2 hc1) (oLd (cs:=[.im 0 _,.im 0 _]) j tF155 j j)<|tT j j j j (iDec.2 hc1) (oLd (cs:=[.im 0 _,.im 0 _]) j tF155 j j)<|sS (dT z176 j j j (iDec.2 hc1) (oCa (xs:=[.v true [.im 0 _,.im 0 _],.v true [.im 0 _,.im 0 _],.v true [.im 0 _,.im 0 _]]) (vs:=[(false,[.im 0 _])]) (v:=.v false [.im 0 _]) (L_spec_l02Side hx23) (.inl j) j kF175_155_155_155 j (ppC j (ppC j (ppC j pp0))) j j pb0 j j j)) trivial (sS (dT z176 j j j (iDec.2 hc1) (oCa (xs:=[.v true [.im 0 _,.im 0 _],.v true [.im 0 _,.im 0 _],.v true [.im 0 _,.im 0 _]]) (vs:=[(false,[.im 0 _])]) (v:=.v false [.im 0 _]) (L_spec_l02Side hx27) (.inl j) j kF175_155_155_155 j (ppC j (ppC j (ppC j pp0))) j j pb0 j j j)) trivial (tT j j j j (iDec.2 hc1) (oBi j j j j)<|tT j j j j (iDec.2 hc1) (oBi j j j j)<|t j j (oPkT j j (iDec.2 hc1) j)<|sS (dN z176 j (oAsI j j)) trivial (sD (by kernel_rfl))))))
  ·cases hm2
   exact t j j (oLd (cs:=[.im 0 _,.im 0 _]) j tF155 j j)<|sS (dN z176 j (oCa (xs:=[.v true [.im 0 _,.im 0 _],.v true [.im 0 _,.im 0 _],.v true [.im 0 _,.im 0 _]]) (vs:=[(false,[.im 0 _])]) (v:=.v false [.im 0 _]) (L_spec_l02Side hx12) (.inl j) j kF175_155_155_155 j (ppC j (ppC j (ppC j pp0))) j j pb0 j j j)) trivial (sS (dN z176 j (oCa (xs:=[.v true [.im 0 _,.im 0 _],.v true [.im 0 _,.im 0 _],.v true [.im 0 _,.im 0 _]]) (vs:=[(false,[.im 0 _])]) (v:=.v false [.im 0 _]) (L_spec_l02Side hx16) (.inl j) j kF175_155_155_155 j (ppC j (ppC j (ppC j pp0))) j j pb0 j j j)) trivial (t j j (oBi j j j j)<|t j j (oBi j j j j)<|t j j (oMv j j)<|tF j j j j (byF iDec hc1) j<|tF j j j j (byF iDec hc1) j<|tF j j j j (byF iDec hc1) j<|tF j j j j (byF iDec hc1) j<|tF j j j j (byF iDec hc1) j<|tF j j j j (byF iDec hc1) j<|sS (dF j j j (byF iDec hc1) j) trivial (sS (dF j j j (byF iDec hc1) j) trivial (tF j j j j (byF iDec hc1) j<|tF j j j j (byF iDec hc1) j<|t j j (oPkF j j (byF iDec hc1) j)<|sS (dN z176 j (oAsI j j)) trivial (sD (by kernel_rfl))))))
 ·refine us<|Go.ret (Unw.ret ?_)
  cases h
  exact fr rF176 j
theorem L_spec_l03Meet {a_0:S_Point} {b_1:S_Point} {c_2:S_Point} {d_3:S_Point} {r:Bool} (h:spec_l03Meet a_0 b_1 c_2 d_3=some r):FX 146 [.im 2 true (u_S_Point a_0),.im 2 true (u_S_Point b_1),.im 2 true (u_S_Point c_2),.im 2 true (u_S_Point d_3)] (B0 [(false,[.im 0 (V r)])]):=by
 unfold spec_l03Meet at h
 refine gn 38 Try.func146 rfl ?_
 refine gs<|g0 j j (q (oBx j tF155 j (tkI (tkI tk0)))<|q (oBx j tF155 j (tkI (tkI tk0)))<|q (oBx j tF155 j (tkI (tkI tk0)))<|q (oBx j tF155 j (tkI (tkI tk0)))<|q (oAsI j j)<|nl)<|us<|gs<|?_
 obtain ⟨x13,hx13,h⟩:=bs h
 obtain ⟨t_8_m1,hm5,h⟩:=bs h
 refine gX c146 j j j (mk [(8,bv t_8_m1)] []) ?_ ?_
 ·refine xq (oLd (cs:=[.im 0 _,.im 0 _]) j tF155 j j)<|xq (oLd (cs:=[.im 0 _,.im 0 _]) j tF155 j j)<|xq (oLd (cs:=[.im 0 _,.im 0 _]) j tF155 j j)<|xq (oLd (cs:=[.im 0 _,.im 0 _]) j tF155 j j)<|xq (oCa (xs:=[.v true [.im 0 _,.im 0 _],.v true [.im 0 _,.im 0 _],.v true [.im 0 _,.im 0 _],.v true [.im 0 _,.im 0 _]]) (vs:=[(false,[.im 0 _])]) (v:=.v false [.im 0 _]) (L_spec_l02Crosses hx13) (.inl j) j kF176_155_155_155_155 j (ppC j (ppC j (ppC j (ppC j pp0)))) j j pb0 j j j)<|xq (oMv j j)<|?_
  refine ic hm5 (fun hc1 hm5=>?_) fun hc1 hm5=>?_
  ·cases hm5
   exact xsgF j j (iR.2 hc1) j<|xsgF j j (iR.2 hc1) j<|xsgF j j (iR.2 hc1) j<|xsgF j j (iR.2 hc1) j<|xq (oPkT j j (iR.2 hc1) j)<|xq (oMv j j)<|xsgF j j j j<|xsgF j j j j<|xsgF j j j j<|xsgF j j j j<|xq (oPkT j j j j)<|xq (oMv j j)<|xsgF j j j j<|xsgF j j j j<|xsgF j j j j<|xsgF j j j j<|xq (oPkT j j j j)<|xq (oMv j j)<|xsgF j j j j<|xsgF j j j j<|xsgF j j j j<|xsgF j j j j<|xq (oPkT j j j j)<|xq (oAsI j j)<|xn
  ·obtain ⟨x18,hx18,hm5⟩:=bs hm5
   refine xqT j j (byF iR hc1) (oLd (cs:=[.im 0 _,.im 0 _]) j tF155 j j)<|xqT j j (byF iR hc1) (oLd (cs:=[.im 0 _,.im 0 _]) j tF155 j j)<|xqT j j (byF iR hc1) (oLd (cs:=[.im 0 _,.im 0 _]) j tF155 j j)<|xqT j j (byF iR hc1) (oCa (xs:=[.v true [.im 0 _,.im 0 _],.v true [.im 0 _,.im 0 _],.v true [.im 0 _,.im 0 _]]) (vs:=[(false,[.im 0 _])]) (v:=.v false [.im 0 _]) (L_spec_l02On hx18) (.inl j) j kF145_155_155_155 j (ppC j (ppC j (ppC j pp0))) j j pb0 j j j)<|xq (oPkF j j (byF iR hc1) j)<|xq (oMv j j)<|?_
   refine ic hm5 (fun hc2 hm5=>?_) fun hc2 hm5=>?_
   ·cases hm5
    exact xsgF j j (iR.2 hc2) j<|xsgF j j (iR.2 hc2) j<|xsgF j j (iR.2 hc2) j<|xsgF j j (iR.2 hc2) j<|xq (oPkT j j (iR.2 hc2) j)<|xq (oMv j j)<|xsgF j j j j<|xsgF j j j j<|xsgF j j j j<|xsgF j j j j<|xq (oPkT j j j j)<|xq (oMv j j)<|xsgF j j j j<|xsgF j j j j<|xsgF j j j j<|xsgF j j j j<|xq (oPkT j j j j)<|xq (oAsI j j)<|xn
   ·obtain ⟨x24,hx24,hm5⟩:=bs hm5
    refine xqT j j (byF iR hc2) (oLd (cs:=[.im 0 _,.im 0 _]) j tF155 j j)<|xqT j j (byF iR hc2) (oLd (cs:=[.im 0 _,.im 0 _]) j tF155 j j)<|xqT j j (byF iR hc2) (oLd (cs:=[.im 0 _,.im 0 _]) j tF155 j j)<|xqT j j (byF iR hc2) (oCa (xs:=[.v true [.im 0 _,.im 0 _],.v true [.im 0 _,.im 0 _],.v true [.im 0 _,.im 0 _]]) (vs:=[(false,[.im 0 _])]) (v:=.v false [.im 0 _]) (L_spec_l02On hx24) (.inl j) j kF145_155_155_155 j (ppC j (ppC j (ppC j pp0))) j j pb0 j j j)<|xq (oPkF j j (byF iR hc2) j)<|xq (oMv j j)<|?_
    refine ic hm5 (fun hc3 hm5=>?_) fun hc3 hm5=>?_
    ·cases hm5
     exact xsgF j j (iR.2 hc3) j<|xsgF j j (iR.2 hc3) j<|xsgF j j (iR.2 hc3) j<|xsgF j j (iR.2 hc3) j<|xq (oPkT j j (iR.2 hc3) j)<|xq (oMv j j)<|xsgF j j j j<|xsgF j j j j<|xsgF j j j j<|xsgF j j j j<|xq (oPkT j j j j)<|xq (oAsI j j)<|xn
    ·obtain ⟨x30,hx30,hm5⟩:=bs hm5
     refine xqT j j (byF iR hc3) (oLd (cs:=[.im 0 _,.im 0 _]) j tF155 j j)<|xqT j j (byF iR hc3) (oLd (cs:=[.im 0 _,.im 0 _]) j tF155 j j)<|xqT j j (byF iR hc3) (oLd (cs:=[.im 0 _,.im 0 _]) j tF155 j j)<|xqT j j (byF iR hc3) (oCa (xs:=[.v true [.im 0 _,.im 0 _],.v true [.im 0 _,.im 0 _],.v true [.im 0 _,.im 0 _]]) (vs:=[(false,[.im 0 _])]) (v:=.v false [.im 0 _]) (L_spec_l02On hx30) (.inl j) j kF145_155_155_155 j (ppC j (ppC j (ppC j pp0))) j j pb0 j j j)<|xq (oPkF j j (byF iR hc3) j)<|xq (oMv j j)<|?_
     refine ic hm5 (fun hc4 hm5=>?_) fun hc4 hm5=>?_
     ·cases hm5
      exact xsgF j j (iR.2 hc4) j<|xsgF j j (iR.2 hc4) j<|xsgF j j (iR.2 hc4) j<|xsgF j j (iR.2 hc4) j<|xq (oPkT j j (iR.2 hc4) j)<|xq (oAsI j j)<|xn
     ·obtain ⟨x36,hx36,hm5⟩:=bs hm5
      cases hm5
      exact xqT j j (byF iR hc4) (oLd (cs:=[.im 0 _,.im 0 _]) j tF155 j j)<|xqT j j (byF iR hc4) (oLd (cs:=[.im 0 _,.im 0 _]) j tF155 j j)<|xqT j j (byF iR hc4) (oLd (cs:=[.im 0 _,.im 0 _]) j tF155 j j)<|xqT j j (byF iR hc4) (oCa (xs:=[.v true [.im 0 _,.im 0 _],.v true [.im 0 _,.im 0 _],.v true [.im 0 _,.im 0 _]]) (vs:=[(false,[.im 0 _])]) (v:=.v false [.im 0 _]) (L_spec_l02On hx36) (.inl j) j kF145_155_155_155 j (ppC j (ppC j (ppC j pp0))) j j pb0 j j j)<|xq (oPkF j j (byF iR hc4) j)<|xq (oAsI j j)<|xn
 ·refine us<|Go.ret (Unw.ret ?_)
  cases h
  exact fr rF146 j
theorem L_spec_l03Area {p_0:(List S_Point)} {r:Int} (h:spec_l03Area p_0=some r):FX 147 [.im 2 false [W 2 e_S_Point p_0]] (B0 [(false,[.im 0 (I r)])]):=by
 unfold spec_l03Area at h
 refine gn 40 Try.func147 rfl ?_
 refine gs<|g0 j j (q (oAsI j j)<|nl)<|us<|gs<|g0 j j (q (oAsI j j)<|nl)<|us<|gs<|gs<|g0 j j (q (oAsI j j)<|nl)<|us<|Go.block<|?_
 obtain ⟨o,hl,h⟩:=bs h
 refine gl c147 j _ (fun (s:(Int×Int))=>match s with | (sum_3_l3,i_4_l3)=>mk [(0,D 2 (W 2 e_S_Point p_0)),(3,iv sum_3_l3),(4,iv i_4_l3)] []) (fun (sum_3_e0_3:Int) (p:Ex×St)=>p.1= .exit 0∧p.2.norm ([3],[])=mk [(3,iv sum_3_e0_3)] []) hl (by kernel_rfl) ?_ ?_ ?_
 ·intro o p hp e
  exact nomatch (hp.1.symm.trans e)
 ·rintro ⟨sum_3_l3,i_4_l3⟩ o h
  unfold spec_l03Area_l3 at h
  dsimp only at h
  refine gs<|gs<|g0 j j (q (oMv j j)<|q (oMv j j)<|q (oLnI j j uF23 j)<|q (oBi j j j j)<|nl)<|us<|gc h j iDec (fun hc3 h=>?_) fun hc3 h=>?_
  ·refine Go.skip<|us<|gs<|Go.block<|gs<|?_
   obtain ⟨x17,hx17,h⟩:=bs h
   obtain ⟨x18,hx18,h⟩:=bs h
   refine g0 j j (q (oMv j j)<|q (oMv j j)<|q (oBi j j j j)<|q (oMv j j)<|q (oLnI j j uF23 j)<|q (oRem j hx17 j j)<|q (oIAI j hx18 sF23 j j)<|q (oLd (cs:=[.im 2 _,.im 2 _]) j tF155 j j)<|q (oAl j tF155 (tkI (tkI tk0)))<|q (oSt tF155 j j j (tkI (tkI tk0)) j j j)<|nl)<|us<|?_
   obtain ⟨x23,hx23,h⟩:=bs h
   obtain ⟨x31,hx31,h⟩:=bs h
   refine gd c147 j j j (st1:=mk [(0,D 2 (W 2 e_S_Point p_0)),(3,iv sum_3_l3),(4,iv i_4_l3),(5,M 5)] [(5,Oa (G 0 (u_S_Point x18)))]) (by kernel_rfl) (mk [(0,D 2 (W 2 e_S_Point p_0)),(3,iv (w64 (sum_3_l3+(w64 ((w64 (x23.X*x18.Y)) - (w64 (x31.Y*x18.X))))))),(4,iv i_4_l3)] []) (t j j (oMv j j)<|t j j (oMv j j)<|t j j (oMv j j)<|t j j (oIAI j hx23 sF23 j j)<|t j j (oFA (r':=.im 2 _) j fF155_0 j j)<|t j j (oLd (cs:=[.im 2 _]) j tF2 j j)<|t j j (oFA (r':=.mp 5 0 1) j fF155_1 j j)<|t j j (oLd (cs:=[.im 0 _]) j tF2 j j)<|t j j (oBi j j j j)<|t j j (oMv j j)<|t j j (oMv j j)<|t j j (oIAI j hx31 sF23 j j)<|t j j (oFA (r':=.im 2 _) j fF155_1 j j)<|t j j (oLd (cs:=[.im 2 _]) j tF2 j j)<|t j j (oFA (r':=.mp 5 0 0) j fF155_0 j j)<|t j j (oLd (cs:=[.im 0 _]) j tF2 j j)<|t j j (oBi j j j j)<|t j j (oBi j j j j)<|t j j (oBi j j j j)<|sS (dN z147 j (oAsI j j)) trivial (sD (by kernel_rfl)))<|Unw.blk<|us<|g0 j j (q (oMv j j)<|q (oBi j j j j)<|q (oAsI j j)<|nl)<|Unw.nil<|?_
   cases h
   exact ⟨j,(by kernel_rfl)⟩
  ·refine Go.exit<|ux<|Unw.nil<|?_
   cases h
   exact ⟨j,(by kernel_rfl)⟩
 ·rintro ⟨e,st⟩ hp
  obtain ⟨sum_3_e0_3,rfl⟩:∃y,y=o:=⟨o,rfl⟩
  obtain ⟨he,hst⟩:=hp
  obtain rfl:e= .exit 0:=he
  refine Unw.blkx<|us<|gs<|g2 c147 j j hst (q (oMv j j)<|q (oAsI j j)<|nl)<|us<|Go.ret (Unw.ret ?_)
  cases h
  exact fr rF147 j
theorem L_spec_l03Ok {p_0:(List S_Point)} {r:Bool} (h:spec_l03Ok p_0=some r):FX 101 [.im 2 false [W 2 e_S_Point p_0]] (B0 [(false,[.im 0 (V r)])]):=by
 unfold spec_l03Ok at h
 refine gn 99 Try.func101 rfl ?_
 refine gs<|g0 j j (q (oAsI j j)<|nl)<|us<|gs<|g0 j j (q (oMv j j)<|q (oLnI j j uF23 j)<|q (oAsI j j)<|nl)<|us<|gs<|gs<|gX c101 j j j (mk [(0,D 2 (W 2 e_S_Point p_0)),(3,iv (p_0.length:Int)),(17,bv ((decide ((p_0.length:Int) <3))||(decide ((p_0.length:Int) >24))))] []) ?_ ?_
 ·refine xq (oMv j j)<|xq (oBi j j j j)<|xq (oMv j j)<|?_
  by_cases hc1:(p_0.length:Int) <3
  ·exact xsgF rfl rfl (iDec.2 hc1) rfl<|xsgF rfl rfl (iDec.2 hc1) rfl<|xq (oPkT rfl rfl (iDec.2 hc1) rfl)<|xn (Eq.trans (b:=(fun t_17_m2:Bool=>mk [(0,D 2 (W 2 e_S_Point p_0)),(3,iv (p_0.length:Int)),(17,bv t_17_m2)] []) true) (by kernel_rfl) (congrArg (fun t_17_m2:Bool=>mk [(0,D 2 (W 2 e_S_Point p_0)),(3,iv (p_0.length:Int)),(17,bv t_17_m2)] []) (by first | rfl | (simp [(iDec.2 hc1)];done) | (simp [(iDec.2 hc1)];omega))))
  ·exact xqT rfl rfl (byF iDec hc1) (oMv rfl rfl)<|xqT rfl rfl (byF iDec hc1) (oBi rfl rfl rfl rfl)<|xq (oPkF rfl rfl (byF iDec hc1) rfl)<|xn (Eq.trans (b:=(fun t_17_m2:Bool=>mk [(0,D 2 (W 2 e_S_Point p_0)),(3,iv (p_0.length:Int)),(17,bv t_17_m2)] []) (decide ((p_0.length:Int) >24))) (by kernel_rfl) (congrArg (fun t_17_m2:Bool=>mk [(0,D 2 (W 2 e_S_Point p_0)),(3,iv (p_0.length:Int)),(17,bv t_17_m2)] []) (by first | rfl | (simp [(byF iDec hc1)];done) | (simp [(byF iDec hc1)];omega))))
 ·refine us<|gc h j (iOr iDec iDec) (fun hc2 h=>?_) fun hc2 h=>?_
  ·refine gs<|g0 j j (q (oAsI j j)<|nl)<|us<|Go.ret (Unw.ret ?_)
   cases h
   exact fr rF101 j
  ·refine Go.skip<|us<|gs<|gs<|g0 j j (q (oAsI j j)<|nl)<|us<|Go.block<|?_
   obtain ⟨o,hl,h⟩:=bs h
   refine gl c101 j _ (fun (i_4_l5:Int)=>mk [(0,D 2 (W 2 e_S_Point p_0)),(3,iv (p_0.length:Int)),(4,iv i_4_l5)] []) (fun (o:(Unit ⊕ Bool)) (p:Ex×St)=>match o with | (.inl _)=>p.1= .exit 0∧p.2.norm ([0,3],[])=mk [(0,D 2 (W 2 e_S_Point p_0)),(3,iv (p_0.length:Int))] [] | (.inr r2)=>p.1= .ret∧fin Try.prog cfg 101 Try.f101 [.im 2 false [W 2 e_S_Point p_0]] p.2=some (B0 [(false,[.im 0 (V r2)])])) hl (by kernel_rfl) ?_ ?_ ?_
   ·intro o p hp e
    rcases o with u | r2<;>exact nomatch (hp.1.symm.trans e)
   ·rintro i_4_l5 o h
    unfold spec_l03Ok_l5 at h
    refine gs<|gs<|g0 j j (q (oMv j j)<|q (oMv j j)<|q (oBi j j j j)<|nl)<|us<|gc h j iDec (fun hc50 h=>?_) fun hc50 h=>?_
    ·refine Go.skip<|us<|gs<|Go.block<|gs<|?_
     obtain ⟨x25,hx25,h⟩:=bs h
     obtain ⟨x27,hx27,h⟩:=bs h
     refine g0 j j (q (oMv j j)<|q (oMv j j)<|q (oIAI j hx25 sF23 j j)<|q (oLd (cs:=[.im 2 _,.im 2 _]) j tF155 j j)<|q (oCa (xs:=[.v true [.im 2 _,.im 2 _]]) (vs:=[(false,[.im 0 _])]) (v:=.v false [.im 0 _]) (L_spec_l02Ok hx27) (.inl j) j kF144_155 j (ppC j pp0) j j pb0 j j j)<|q (oUn j j j)<|nl)<|us<|?_
     by_cases hc51:x27=true
     ·rw [if_pos hc51] at h
      refine gF j (nF (iR.2 hc51))<|Go.skip<|Unw.blk<|us<|g0 j j (q (oMv j j)<|q (oBi j j j j)<|q (oAsI j j)<|nl)<|Unw.nil<|?_
      cases h
      exact ⟨j,(by kernel_rfl)⟩
     ·rw [if_neg hc51] at h
      refine gT j (nT (byF iR hc51))<|gs<|g0 j j (q (oAsI j j)<|nl)<|us<|Go.ret (Unw.ret ?_)
      cases h
      exact ⟨j,(fo rF101 j)⟩
    ·refine Go.exit<|ux<|Unw.nil<|?_
     cases h
     exact ⟨j,(by kernel_rfl)⟩
   ·rintro ⟨e,st⟩ hp
    rcases o with u | r2
    ·dsimp only at h
     obtain ⟨he,hst⟩:=hp
     obtain rfl:e= .exit 0:=he
     refine Unw.blkx<|us<|gs<|gs<|g2 c101 j j hst (q (oAsI j j)<|nl)<|us<|Go.block<|?_
     obtain ⟨o,hl,h⟩:=bs h
     refine gl c101 j _ (fun (i_5_l10:Int)=>mk [(0,D 2 (W 2 e_S_Point p_0)),(3,iv (p_0.length:Int)),(5,iv i_5_l10)] []) (fun (o:(Unit ⊕ Bool)) (p:Ex×St)=>match o with | (.inl _)=>p.1= .exit 2∧p.2.norm ([0],[])=mk [(0,D 2 (W 2 e_S_Point p_0))] [] | (.inr r2)=>p.1= .ret∧fin Try.prog cfg 101 Try.f101 [.im 2 false [W 2 e_S_Point p_0]] p.2=some (B0 [(false,[.im 0 (V r2)])])) hl (by kernel_rfl) ?_ ?_ ?_
     ·intro o p hp e
      rcases o with u | r2<;>exact nomatch (hp.1.symm.trans e)
     ·rintro i_5_l10 o h
      unfold spec_l03Ok_l10 at h
      refine gs<|gs<|g0 j j (q (oMv j j)<|q (oMv j j)<|q (oBi j j j j)<|nl)<|us<|gc h j iDec (fun hc33 h=>?_) fun hc33 h=>?_
      ·refine Go.skip<|us<|gs<|Go.block<|gs<|?_
       obtain ⟨x36,hx36,h⟩:=bs h
       refine g0 j j (q (oMv j j)<|q (oMv j j)<|q (oIAI j hx36 sF23 j j)<|q (oLd (cs:=[.im 2 _,.im 2 _]) j tF155 j j)<|q (oAl j tF155 (tkI (tkI tk0)))<|q (oSt tF155 j j j (tkI (tkI tk0)) j j j)<|nl)<|us<|gs<|?_
       obtain ⟨x42,hx42,h⟩:=bs h
       obtain ⟨x43,hx43,h⟩:=bs h
       refine g1 j j (mk [(0,D 2 (W 2 e_S_Point p_0)),(3,iv (p_0.length:Int)),(5,iv i_5_l10),(6,M 6)] [(6,Oa (G 0 (u_S_Point x36)))]) (q (oMv j j)<|q (oMv j j)<|q (oBi j j j j)<|q (oMv j j)<|q (oRem j hx42 j j)<|q (oIAI j hx43 sF23 j j)<|q (oLd (cs:=[.im 2 _,.im 2 _]) j tF155 j j)<|q (oAl j tF155 (tkI (tkI tk0)))<|q (oSt tF155 j j j (tkI (tkI tk0)) j j j)<|nl)<|us<|gs<|?_
       obtain ⟨x49,hx49,h⟩:=bs h
       obtain ⟨x50,hx50,h⟩:=bs h
       refine g1 j j (mk [(0,D 2 (W 2 e_S_Point p_0)),(3,iv (p_0.length:Int)),(5,iv i_5_l10),(6,M 6),(7,M 7)] [(6,Oa (G 0 (u_S_Point x36))),(7,Oa (G 0 (u_S_Point x43)))]) (q (oMv j j)<|q (oMv j j)<|q (oBi j j j j)<|q (oMv j j)<|q (oRem j hx49 j j)<|q (oIAI j hx50 sF23 j j)<|q (oLd (cs:=[.im 2 _,.im 2 _]) j tF155 j j)<|q (oAl j tF155 (tkI (tkI tk0)))<|q (oSt tF155 j j j (tkI (tkI tk0)) j j j)<|nl)<|us<|gs<|gs<|?_
       obtain ⟨t_66_m15,hm49,h⟩:=bs h
       refine gX c101 j j (st1:=mk [(0,D 2 (W 2 e_S_Point p_0)),(3,iv (p_0.length:Int)),(5,iv i_5_l10),(6,M 6),(7,M 7),(8,M 8)] [(6,Oa (G 0 (u_S_Point x36))),(7,Oa (G 0 (u_S_Point x43))),(8,Oa (G 0 (u_S_Point x50)))]) (by kernel_rfl) (mk [(0,D 2 (W 2 e_S_Point p_0)),(3,iv (p_0.length:Int)),(5,iv i_5_l10),(6,M 6),(7,M 7),(66,bv t_66_m15)] [(6,Oa (G 0 (u_S_Point x36))),(7,Oa (G 0 (u_S_Point x43)))]) ?_ ?_
       ·refine xq (oLd (cs:=[.im 0 _,.im 0 _]) j tF155 j j)<|xq (oLd (cs:=[.im 0 _,.im 0 _]) j tF155 j j)<|xq (oBa j (qEF155 x36.X x36.Y x43.X x43.Y) j j j j)<|xq (oMv j j)<|?_
        refine ic hm49 (fun hc34 hm49=>?_) fun hc34 hm49=>?_
        ·cases hm49
         exact xsgF j j ((iAnd iEq iEq).2 hc34) j<|xsgF j j ((iAnd iEq iEq).2 hc34) j<|xsgF j j ((iAnd iEq iEq).2 hc34) j<|xsgF j j ((iAnd iEq iEq).2 hc34) j<|xq (oPkT j j ((iAnd iEq iEq).2 hc34) j)<|xq (oMv j j)<|xsgF j j j j<|xsgF j j j j<|xsgF j j j j<|xsgF j j j j<|xq (oPkT j j j j)<|xn
        ·obtain ⟨x59,hx59,hm49⟩:=bs hm49
         refine xqT j j (byF (iAnd iEq iEq) hc34) (oLd (cs:=[.im 0 _,.im 0 _]) j tF155 j j)<|xqT j j (byF (iAnd iEq iEq) hc34) (oLd (cs:=[.im 0 _,.im 0 _]) j tF155 j j)<|xqT j j (byF (iAnd iEq iEq) hc34) (oLd (cs:=[.im 0 _,.im 0 _]) j tF155 j j)<|xqT j j (byF (iAnd iEq iEq) hc34) (oCa (xs:=[.v true [.im 0 _,.im 0 _],.v true [.im 0 _,.im 0 _],.v true [.im 0 _,.im 0 _]]) (vs:=[(false,[.im 0 _])]) (v:=.v false [.im 0 _]) (L_spec_l02On hx59) (.inl j) j kF145_155_155_155 j (ppC j (ppC j (ppC j pp0))) j j pb0 j j j)<|xq (oPkF j j (byF (iAnd iEq iEq) hc34) j)<|xq (oMv j j)<|?_
         refine ic hm49 (fun hc35 hm49=>?_) fun hc35 hm49=>?_
         ·cases hm49
          exact xsgF j j (iR.2 hc35) j<|xsgF j j (iR.2 hc35) j<|xsgF j j (iR.2 hc35) j<|xsgF j j (iR.2 hc35) j<|xq (oPkT j j (iR.2 hc35) j)<|xn
         ·obtain ⟨x65,hx65,hm49⟩:=bs hm49
          cases hm49
          exact xqT j j (byF iR hc35) (oLd (cs:=[.im 0 _,.im 0 _]) j tF155 j j)<|xqT j j (byF iR hc35) (oLd (cs:=[.im 0 _,.im 0 _]) j tF155 j j)<|xqT j j (byF iR hc35) (oLd (cs:=[.im 0 _,.im 0 _]) j tF155 j j)<|xqT j j (byF iR hc35) (oCa (xs:=[.v true [.im 0 _,.im 0 _],.v true [.im 0 _,.im 0 _],.v true [.im 0 _,.im 0 _]]) (vs:=[(false,[.im 0 _])]) (v:=.v false [.im 0 _]) (L_spec_l02On hx65) (.inl j) j kF145_155_155_155 j (ppC j (ppC j (ppC j pp0))) j j pb0 j j j)<|xq (oPkF j j (byF iR hc35) j)<|xn
       ·refine us<|gc h j iR (fun hc36 h=>?_) fun hc36 h=>?_
        ·refine gs<|g0 j j (q (oAsI j j)<|nl)<|us<|Go.ret (Unw.ret ?_)
         cases h
         exact ⟨j,(fo rF101 j)⟩
        ·refine Go.skip<|us<|gs<|g0 j j (q (oMv j j)<|q (oBi j j j j)<|q (oAsI j j)<|nl)<|us<|Go.block<|?_
         obtain ⟨o,hl,h⟩:=bs h
         refine gl c101 j _ (fun (k_9_l18:Int)=>mk [(0,D 2 (W 2 e_S_Point p_0)),(3,iv (p_0.length:Int)),(5,iv i_5_l10),(6,M 6),(7,M 7),(9,iv k_9_l18)] [(6,Oa (G 0 (u_S_Point x36))),(7,Oa (G 0 (u_S_Point x43)))]) (fun (o:(Unit ⊕ Bool)) (p:Ex×St)=>match o with | (.inl _)=>p.1= .exit 4∧p.2.norm ([0,3,5],[])=mk [(0,D 2 (W 2 e_S_Point p_0)),(3,iv (p_0.length:Int)),(5,iv i_5_l10)] [] | (.inr r2)=>p.1= .ret∧fin Try.prog cfg 101 Try.f101 [.im 2 false [W 2 e_S_Point p_0]] p.2=some (B0 [(false,[.im 0 (V r2)])])) hl (by kernel_rfl) ?_ ?_ ?_
         ·intro o p hp e
          rcases o with u | r2<;>exact nomatch (hp.1.symm.trans e)
         ·rintro k_9_l18 o h
          unfold spec_l03Ok_l18 at h
          refine gs<|gs<|g0 j j (q (oMv j j)<|q (oMv j j)<|q (oBi j j j j)<|nl)<|us<|gc h j iDec (fun hc45 h=>?_) fun hc45 h=>?_
          ·refine Go.skip<|us<|gs<|Go.block<|gs<|?_
           obtain ⟨x77,hx77,h⟩:=bs h
           obtain ⟨t_95_m20,hm48,h⟩:=bs h
           refine gd c101 j j j j (mk [(0,D 2 (W 2 e_S_Point p_0)),(3,iv (p_0.length:Int)),(5,iv i_5_l10),(6,M 6),(7,M 7),(9,iv k_9_l18),(95,bv t_95_m20)] [(6,Oa (G 0 (u_S_Point x36))),(7,Oa (G 0 (u_S_Point x43)))]) ?_ ?_
           ·refine t j j (oMv j j)<|t j j (oBi j j j j)<|t j j (oMv j j)<|t j j (oRem j hx77 j j)<|t j j (oMv j j)<|t j j (oBi j j j j)<|t j j (oMv j j)<|?_
            refine ic hm48 (fun hc46 hm48=>?_) fun hc46 hm48=>?_
            ·obtain ⟨x85,hx85,hm48⟩:=bs hm48
             obtain ⟨x91,hx91,hm48⟩:=bs hm48
             obtain ⟨x92,hx92,hm48⟩:=bs hm48
             obtain ⟨x94,hx94,hm48⟩:=bs hm48
             cases hm48
             exact tT j j j j (iNe.2 hc46) (oLd (cs:=[.im 0 _,.im 0 _]) j tF155 j j)<|tT j j j j (iNe.2 hc46) (oLd (cs:=[.im 0 _,.im 0 _]) j tF155 j j)<|tT j j j j (iNe.2 hc46) (oMv j j)<|tT j j j j (iNe.2 hc46) (oMv j j)<|tT j j j j (iNe.2 hc46) (oIAI j hx85 sF23 j j)<|tT j j j j (iNe.2 hc46) (oLd (cs:=[.im 2 _,.im 2 _]) j tF155 j j)<|tT j j j j (iNe.2 hc46) (oMv j j)<|tT j j j j (iNe.2 hc46) (oMv j j)<|tT j j j j (iNe.2 hc46) (oBi j j j j)<|tT j j j j (iNe.2 hc46) (oMv j j)<|tT j j j j (iNe.2 hc46) (oRem j hx91 j j)<|tT j j j j (iNe.2 hc46) (oIAI j hx92 sF23 j j)<|tT j j j j (iNe.2 hc46) (oLd (cs:=[.im 2 _,.im 2 _]) j tF155 j j)<|sS (dT z101 j j j (iNe.2 hc46) (oCa (xs:=[.v true [.im 0 _,.im 0 _],.v true [.im 0 _,.im 0 _],.v true [.im 2 _,.im 2 _],.v true [.im 2 _,.im 2 _]]) (vs:=[(false,[.im 0 _])]) (v:=.v false [.im 0 _]) (L_spec_l03Meet hx94) (.inl j) j kF146_155_155_155_155 j (ppC j (ppC j (ppC j (ppC j pp0)))) j j pb0 j j j)) trivial (t j j (oPkT j j (iNe.2 hc46) j)<|sD (by kernel_rfl))
            ·cases hm48
             exact tF j j j j (byF iNe hc46) j<|tF j j j j (byF iNe hc46) j<|tF j j j j (byF iNe hc46) j<|tF j j j j (byF iNe hc46) j<|tF j j j j (byF iNe hc46) j<|tF j j j j (byF iNe hc46) j<|tF j j j j (byF iNe hc46) j<|tF j j j j (byF iNe hc46) j<|tF j j j j (byF iNe hc46) j<|tF j j j j (byF iNe hc46) j<|tF j j j j (byF iNe hc46) j<|tF j j j j (byF iNe hc46) j<|tF j j j j (byF iNe hc46) j<|sS (dF j j j (byF iNe hc46) j) trivial (t j j (oPkF j j (byF iNe hc46) j)<|sD (by kernel_rfl))
           ·refine us<|gc h j iR (fun hc47 h=>?_) fun hc47 h=>?_
            ·refine gs<|g0 j j (q (oAsI j j)<|nl)<|us<|Go.ret (Unw.ret ?_)
             cases h
             exact ⟨j,(fo rF101 j)⟩
            ·refine Go.skip<|Unw.blk<|us<|g0 j j (q (oMv j j)<|q (oBi j j j j)<|q (oAsI j j)<|nl)<|Unw.nil<|?_
             cases h
             exact ⟨j,(by kernel_rfl)⟩
          ·refine Go.exit<|ux<|Unw.nil<|?_
           cases h
           exact ⟨j,(by kernel_rfl)⟩
         ·rintro ⟨e,st⟩ hp
          rcases o with u | r2
          ·dsimp only at h
           obtain ⟨he,hst⟩:=hp
           obtain rfl:e= .exit 4:=he
           refine Unw.blkx<|Unw.blk<|us<|g2 c101 j j hst (q (oMv j j)<|q (oBi j j j j)<|q (oAsI j j)<|nl)<|Unw.nil<|?_
           cases h
           exact ⟨j,(by kernel_rfl)⟩
          ·dsimp only at h
           obtain ⟨he,hfin⟩:=hp
           obtain rfl:e= .ret:=he
           cases h
           exact Unw.ret ⟨j,hfin⟩
      ·refine Go.exit<|ux<|Unw.nil<|?_
       cases h
       exact ⟨j,(by kernel_rfl)⟩
     ·rintro ⟨e,st⟩ hp
      rcases o with u | r2
      ·dsimp only at h
       obtain ⟨he,hst⟩:=hp
       obtain rfl:e= .exit 2:=he
       refine Unw.blkx<|us<|gs<|?_
       obtain ⟨x97,hx97,h⟩:=bs h
       refine g2 c101 j j hst (q (oMv j j)<|q (oCa (xs:=[.v false [.im 2 _]]) (vs:=[(false,[.im 0 _])]) (v:=.v false [.im 0 _]) (L_spec_l03Area hx97) (.inl j) j kF147_23 j (ppC j pp0) j j pb0 j j j)<|q (oBi j j j j)<|q (oAsI j j)<|nl)<|us<|Go.ret (Unw.ret ?_)
       cases h
       exact fr rF101 j
      ·dsimp only at h
       obtain ⟨he,hfin⟩:=hp
       obtain rfl:e= .ret:=he
       cases h
       exact Unw.ret (Fin_ret hfin)
    ·dsimp only at h
     obtain ⟨he,hfin⟩:=hp
     obtain rfl:e= .ret:=he
     cases h
     exact Unw.ret (Fin_ret hfin)
theorem L_spec_l05Ok {d_0:S_Drawing} {r:Bool} (h:spec_l05Ok d_0=some r):FX 51 [.im 2 false [.cp (u_S_Drawing d_0) 0]] (B0 [(false,[.im 0 (V r)])]):=by
 unfold spec_l05Ok at h
 refine gn 96 Try.func51 rfl ?_
 refine gs<|g0 j j (q (oAsI j j)<|nl)<|us<|gs<|gs<|?_
 obtain ⟨x10,hx10,h⟩:=bs h
 obtain ⟨t_32_m1,hm29,h⟩:=bs h
 refine gX c51 j j j (mk [(0,D 2 (.cp (u_S_Drawing d_0) 0)),(32,bv t_32_m1)] []) ?_ ?_
 ·refine xq (oMv j j)<|xq (oNl j j j)<|xq (oFA (r':=.im 2 _) j fF26_0 j j)<|xq (oLd (cs:=[.im 2 _]) j tF2 j j)<|xq (oCa (xs:=[.v false [.im 2 _],.v false [.im 0 _],.v false [.im 0 _]]) (vs:=[(false,[.im 0 _])]) (v:=.v false [.im 0 _]) (L_spec_l00In hx10) (.inl j) j kF97_2_2_2 j (ppC j (ppC j (ppC j pp0))) j j pb0 j j j)<|xq (oUn j j j)<|xq (oMv j j)<|?_
  refine ic hm29 (fun hc1 hm29=>?_) fun hc1 hm29=>?_
  ·obtain ⟨x17,hx17,hm29⟩:=bs hm29
   refine xqT j j (nF (iR.2 hc1)) (oMv j j)<|xqT j j (nF (iR.2 hc1)) (oNl j j j)<|xqT j j (nF (iR.2 hc1)) (oFA (r':=.im 2 _) j fF26_1 j j)<|xqT j j (nF (iR.2 hc1)) (oLd (cs:=[.im 2 _]) j tF2 j j)<|xqT j j (nF (iR.2 hc1)) (oCa (xs:=[.v false [.im 2 _],.v false [.im 0 _],.v false [.im 0 _]]) (vs:=[(false,[.im 0 _])]) (v:=.v false [.im 0 _]) (L_spec_l00In hx17) (.inl j) j kF97_2_2_2 j (ppC j (ppC j (ppC j pp0))) j j pb0 j j j)<|xqT j j (nF (iR.2 hc1)) (oUn j j j)<|xq (oPkF j j (nF (iR.2 hc1)) j)<|xq (oMv j j)<|?_
   refine ic hm29 (fun hc2 hm29=>?_) fun hc2 hm29=>?_
   ·obtain ⟨x22,hx22,hm29⟩:=bs hm29
    refine xqT j j (nF (iR.2 hc2)) (oMv j j)<|xqT j j (nF (iR.2 hc2)) (oCa (xs:=[.v false [.im 2 _]]) (vs:=[(false,[.im 0 _])]) (v:=.v false [.im 0 _]) (L_spec_l05Points hx22) (.inl j) j kF98_81 j (ppC j pp0) j j pb0 j j j)<|xqT j j (nF (iR.2 hc2)) (oUn j j j)<|xq (oPkF j j (nF (iR.2 hc2)) j)<|xq (oMv j j)<|?_
    refine ic hm29 (fun hc3 hm29=>?_) fun hc3 hm29=>?_
    ·cases hm29
     exact xqT j j (nF (iR.2 hc3)) (oMv j j)<|xqT j j (nF (iR.2 hc3)) (oNl j j j)<|xqT j j (nF (iR.2 hc3)) (oFA (r':=.im 2 _) j fF26_3 j j)<|xqT j j (nF (iR.2 hc3)) (oLd (cs:=[.im 2 _]) j tF24 j j)<|xqT j j (nF (iR.2 hc3)) (oLnI j j uF24 j)<|xqT j j (nF (iR.2 hc3)) (oBi j j j j)<|xq (oPkF j j (nF (iR.2 hc3)) j)<|xn
    ·cases hm29
     exact xsgF j j (nT (byF iR hc3)) j<|xsgF j j (nT (byF iR hc3)) j<|xsgF j j (nT (byF iR hc3)) j<|xsgF j j (nT (byF iR hc3)) j<|xsgF j j (nT (byF iR hc3)) j<|xsgF j j (nT (byF iR hc3)) j<|xq (oPkT j j (nT (byF iR hc3)) j)<|xn
   ·cases hm29
    exact xsgF j j (nT (byF iR hc2)) j<|xsgF j j (nT (byF iR hc2)) j<|xsgF j j (nT (byF iR hc2)) j<|xq (oPkT j j (nT (byF iR hc2)) j)<|xq (oMv j j)<|xsgF j j j j<|xsgF j j j j<|xsgF j j j j<|xsgF j j j j<|xsgF j j j j<|xsgF j j j j<|xq (oPkT j j j j)<|xn
  ·cases hm29
   exact xsgF j j (nT (byF iR hc1)) j<|xsgF j j (nT (byF iR hc1)) j<|xsgF j j (nT (byF iR hc1)) j<|xsgF j j (nT (byF iR hc1)) j<|xsgF j j (nT (byF iR hc1)) j<|xsgF j j (nT (byF iR hc1)) j<|xq (oPkT j j (nT (byF iR hc1)) j)<|xq (oMv j j)<|xsgF j j j j<|xsgF j j j j<|xsgF j j j j<|xq (oPkT j j j j)<|xq (oMv j j)<|xsgF j j j j<|xsgF j j j j<|xsgF j j j j<|xsgF j j j j<|xsgF j j j j<|xsgF j j j j<|xq (oPkT j j j j)<|xn
 ·refine us<|gc h j iR (fun hc4 h=>?_) fun hc4 h=>?_
  ·refine gs<|g0 j j (q (oAsI j j)<|nl)<|us<|Go.ret (Unw.ret ?_)
   cases h
   exact fr rF51 j
  ·refine Go.skip<|us<|gs<|gs<|g0 j j (q (oAsI j j)<|nl)<|us<|Go.block<|?_
   obtain ⟨o,hl,h⟩:=bs h
   refine gl c51 j _ (fun (i_3_l4:Int)=>mk [(0,D 2 (.cp (u_S_Drawing d_0) 0)),(3,iv i_3_l4)] []) (fun (o:(Unit ⊕ Bool)) (p:Ex×St)=>match o with | (.inl _)=>p.1= .exit 0∧p.2.norm ([],[])=mk [] [] | (.inr r2)=>p.1= .ret∧fin Try.prog cfg 51 Try.f51 [.im 2 false [.cp (u_S_Drawing d_0) 0]] p.2=some (B0 [(false,[.im 0 (V r2)])])) hl (by kernel_rfl) ?_ ?_ ?_
   ·intro o p hp e
    rcases o with u | r2<;>exact nomatch (hp.1.symm.trans e)
   ·rintro i_3_l4 o h
    unfold spec_l05Ok_l4 at h
    refine gs<|gs<|g0 j j (q (oMv j j)<|q (oMv j j)<|q (oNl j j j)<|q (oFA (r':=.im 2 _) j fF26_3 j j)<|q (oLd (cs:=[.im 2 _]) j tF24 j j)<|q (oLnI j j uF24 j)<|q (oBi j j j j)<|nl)<|us<|gc h j iDec (fun hc21 h=>?_) fun hc21 h=>?_
    ·refine Go.skip<|us<|gs<|Go.block<|gs<|gs<|?_
     obtain ⟨x47,hx47,h⟩:=bs h
     obtain ⟨x50,hx50,h⟩:=bs h
     obtain ⟨t_75_m6,hm28,h⟩:=bs h
     refine gd c51 j j j j (mk [(0,D 2 (.cp (u_S_Drawing d_0) 0)),(3,iv i_3_l4),(75,bv t_75_m6)] []) ?_ ?_
     ·refine t j j (oMv j j)<|t j j (oNl j j j)<|t j j (oFA (r':=.im 2 _) j fF26_3 j j)<|t j j (oLd (cs:=[.im 2 _]) j tF24 j j)<|t j j (oMv j j)<|t j j (oIAI j hx47 sF24 j j)<|t j j (oFA (r':=.im 2 _) j fF148_0 j j)<|?_
      refine ic hm28 (fun hc22 hm28=>?_) fun hc22 hm28=>?_
      ·refine ic hm28 (fun hc23 hm28=>?_) fun hc23 hm28=>?_
       ·obtain ⟨x62,hx62,hm28⟩:=bs hm28
        obtain ⟨x70,hx70,hm28⟩:=bs hm28
        cases hm28
        exact t j j (oLd (cs:=[.im 2 _]) j tF9 j j)<|sS (dN z51 j (oCa (xs:=[.v false [.im 2 _]]) (vs:=[(false,[.im 0 _])]) (v:=.v false [.im 0 _]) (L_spec_l01Name hx50) (.inl j) j kF99_9 j (ppC j pp0) j j pb0 j j j)) trivial (t j j (oUn j j j)<|t j j (oMv j j)<|tT j j j j (nF (iR.2 hc22)) (oMv j j)<|tT j j j j (nF (iR.2 hc22)) (oBi j j j j)<|tT j j j j (nF (iR.2 hc22)) (oMv j j)<|tT j j j j (iDec.2 hc23) (oMv j j)<|tT j j j j (iDec.2 hc23) (oNl j j j)<|tT j j j j (iDec.2 hc23) (oFA (r':=.im 2 _) j fF26_3 j j)<|tT j j j j (iDec.2 hc23) (oLd (cs:=[.im 2 _]) j tF24 j j)<|tT j j j j (iDec.2 hc23) (oMv j j)<|tT j j j j (iDec.2 hc23) (oBi j j j j)<|tT j j j j (iDec.2 hc23) (oIAI j hx62 sF24 j j)<|tT j j j j (iDec.2 hc23) (oFA (r':=.im 2 _) j fF148_0 j j)<|tT j j j j (iDec.2 hc23) (oLd (cs:=[.im 2 _]) j tF9 j j)<|tT j j j j (iDec.2 hc23) (oMv j j)<|tT j j j j (iDec.2 hc23) (oNl j j j)<|tT j j j j (iDec.2 hc23) (oFA (r':=.im 2 _) j fF26_3 j j)<|tT j j j j (iDec.2 hc23) (oLd (cs:=[.im 2 _]) j tF24 j j)<|tT j j j j (iDec.2 hc23) (oMv j j)<|tT j j j j (iDec.2 hc23) (oIAI j hx70 sF24 j j)<|tT j j j j (iDec.2 hc23) (oFA (r':=.im 2 _) j fF148_0 j j)<|tT j j j j (iDec.2 hc23) (oLd (cs:=[.im 2 _]) j tF9 j j)<|tT j j j j (iDec.2 hc23) (oBi j j j j)<|tT j j j j (nF (iR.2 hc22)) (oPkT j j (iDec.2 hc23) j)<|t j j (oPkF j j (nF (iR.2 hc22)) j)<|sD (by kernel_rfl))
       ·cases hm28
        exact t j j (oLd (cs:=[.im 2 _]) j tF9 j j)<|sS (dN z51 j (oCa (xs:=[.v false [.im 2 _]]) (vs:=[(false,[.im 0 _])]) (v:=.v false [.im 0 _]) (L_spec_l01Name hx50) (.inl j) j kF99_9 j (ppC j pp0) j j pb0 j j j)) trivial (t j j (oUn j j j)<|t j j (oMv j j)<|tT j j j j (nF (iR.2 hc22)) (oMv j j)<|tT j j j j (nF (iR.2 hc22)) (oBi j j j j)<|tT j j j j (nF (iR.2 hc22)) (oMv j j)<|tF j j j j (byF iDec hc23) j<|tF j j j j (byF iDec hc23) j<|tF j j j j (byF iDec hc23) j<|tF j j j j (byF iDec hc23) j<|tF j j j j (byF iDec hc23) j<|tF j j j j (byF iDec hc23) j<|tF j j j j (byF iDec hc23) j<|tF j j j j (byF iDec hc23) j<|tF j j j j (byF iDec hc23) j<|tF j j j j (byF iDec hc23) j<|tF j j j j (byF iDec hc23) j<|tF j j j j (byF iDec hc23) j<|tF j j j j (byF iDec hc23) j<|tF j j j j (byF iDec hc23) j<|tF j j j j (byF iDec hc23) j<|tF j j j j (byF iDec hc23) j<|tF j j j j (byF iDec hc23) j<|tF j j j j (byF iDec hc23) j<|tT j j j j (nF (iR.2 hc22)) (oPkF j j (byF iDec hc23) j)<|t j j (oPkF j j (nF (iR.2 hc22)) j)<|sD (by kernel_rfl))
      ·cases hm28
       exact t j j (oLd (cs:=[.im 2 _]) j tF9 j j)<|sS (dN z51 j (oCa (xs:=[.v false [.im 2 _]]) (vs:=[(false,[.im 0 _])]) (v:=.v false [.im 0 _]) (L_spec_l01Name hx50) (.inl j) j kF99_9 j (ppC j pp0) j j pb0 j j j)) trivial (t j j (oUn j j j)<|t j j (oMv j j)<|tF j j j j (nT (byF iR hc22)) j<|tF j j j j (nT (byF iR hc22)) j<|tF j j j j (nT (byF iR hc22)) j<|sT j (dU j j j j)<|sT j (dU j j j j)<|sT j (dU j j j j)<|sT j (dU j j j j)<|sT j (dU j j j j)<|sT j (dU j j j j)<|sT j (dU j j j j)<|sT j (dU j j j j)<|sT j (dU j j j j)<|sT j (dU j j j j)<|sT j (dU j j j j)<|sT j (dU j j j j)<|sT j (dU j j j j)<|sT j (dU j j j j)<|sT j (dU j j j j)<|sT j (dU j j j j)<|sT j (dU j j j j)<|sT j (dU j j j j)<|tF j j j j (nT (byF iR hc22)) j<|t j j (oPkT j j (nT (byF iR hc22)) j)<|sD (by kernel_rfl))
     ·refine us<|gc h j iR (fun hc24 h=>?_) fun hc24 h=>?_
      ·refine gs<|g0 j j (q (oAsI j j)<|nl)<|us<|Go.ret (Unw.ret ?_)
       cases h
       exact ⟨j,(fo rF51 j)⟩
      ·refine Go.skip<|us<|gs<|?_
       obtain ⟨x83,hx83,h⟩:=bs h
       obtain ⟨x86,hx86,h⟩:=bs h
       refine g0 j j (q (oMv j j)<|q (oMv j j)<|q (oNl j j j)<|q (oFA (r':=.im 2 _) j fF26_3 j j)<|q (oLd (cs:=[.im 2 _]) j tF24 j j)<|q (oMv j j)<|q (oIAI j hx83 sF24 j j)<|q (oFA (r':=.im 2 _) j fF148_1 j j)<|q (oLd (cs:=[.im 2 _]) j tF28 j j)<|q (oCr (xs:=[.v false [.im 2 _],.v false [.im 2 _]]) (vs:=[(false,[.own 86 0 0]),(false,[.im 0 _])]) (v:=.tup [(false,[.own 86 0 0]),(false,[.im 0 _])]) (c:=⟨.sh,0,_⟩) (cs:=[]) (L_spec_l05Ring hx86) (.inl j) j kF100_81_28 j (ppC j (ppC j pp0)) j j pb0 j j j)<|q (oMvT j j)<|q (oEx j j j)<|q (oEx j j j)<|q (oAsO j j j j j)<|q (oAsI j j)<|nl)<|us<|gs<|?_
       obtain ⟨t_95_m9,hm27,h⟩:=bs h
       refine gX c51 j j j (mk [(0,D 2 (.cp (u_S_Drawing d_0) 0)),(3,iv i_3_l4),(95,bv t_95_m9)] []) ?_ ?_
       ·refine xq (oMv j j)<|xq (oUn j j j)<|xq (oMv j j)<|?_
        refine ic hm27 (fun hc25 hm27=>?_) fun hc25 hm27=>?_
        ·obtain ⟨x93,hx93,hm27⟩:=bs hm27
         cases hm27
         exact xqT j j (nF (iR.2 hc25)) (oMv j j)<|xqT j j (nF (iR.2 hc25)) (oCa (xs:=[.v false [.own 4 0 0]]) (vs:=[(false,[.im 0 _])]) (v:=.v false [.im 0 _]) (L_spec_l03Ok hx93) (.inl j) j kF101_23 j (ppC j pp0) j j pb0 j j j)<|xqT j j (nF (iR.2 hc25)) (oUn j j j)<|xq (oPkF j j (nF (iR.2 hc25)) j)<|xn
        ·cases hm27
         exact xsgF j j (nT (byF iR hc25)) j<|xsgF j j (nT (byF iR hc25)) j<|xsgF j j (nT (byF iR hc25)) j<|xq (oPkT j j (nT (byF iR hc25)) j)<|xn
       ·refine us<|gc h j iR (fun hc26 h=>?_) fun hc26 h=>?_
        ·refine gs<|g0 j j (q (oAsI j j)<|nl)<|us<|Go.ret (Unw.ret ?_)
         cases h
         exact ⟨j,(fo rF51 j)⟩
        ·refine Go.skip<|Unw.blk<|us<|g0 j j (q (oMv j j)<|q (oBi j j j j)<|q (oAsI j j)<|nl)<|Unw.nil<|?_
         cases h
         exact ⟨j,(by kernel_rfl)⟩
    ·refine Go.exit<|ux<|Unw.nil<|?_
     cases h
     exact ⟨j,(by kernel_rfl)⟩
   ·rintro ⟨e,st⟩ hp
    rcases o with u | r2
    ·dsimp only at h
     obtain ⟨he,hst⟩:=hp
     obtain rfl:e= .exit 0:=he
     refine Unw.blkx<|us<|gs<|g2 c51 j j hst (q (oAsI j j)<|nl)<|us<|Go.ret (Unw.ret ?_)
     cases h
     exact fr rF51 j
    ·dsimp only at h
     obtain ⟨he,hfin⟩:=hp
     obtain rfl:e= .ret:=he
     cases h
     exact Unw.ret (Fin_ret hfin)
theorem L_spec_l07Names {r:(List ByteArray)} (h:spec_l07Names=some r):FX 159 [] (B0 [(false,[.ow 0 1 (List.map eS r)])]):=by
 unfold spec_l07Names at h
 refine gn 2 Try.func159 rfl ?_
 refine gs<|g0 j j (q (oAsN j j eF195)<|nl)<|us<|gs<|g0 j j (q (oBS (es:=List.map eS ([(⟨#[97,115,104]⟩:ByteArray),(⟨#[98,101,101,99,104]⟩:ByteArray),(⟨#[98,105,114,99,104]⟩:ByteArray),(⟨#[99,104,101,114,114,121]⟩:ByteArray),(⟨#[101,98,111,110,121]⟩:ByteArray),(⟨#[104,111,108,108,121]⟩:ByteArray),(⟨#[109,97,112,108,101]⟩:ByteArray),(⟨#[111,97,107]⟩:ByteArray),(⟨#[114,111,115,101,119,111,111,100]⟩:ByteArray),(⟨#[119,97,108,110,117,116]⟩:ByteArray)]:List ByteArray)) j sF195 j (ptC j (fxI fx0) j (ptC j (fxI fx0) j (ptC j (fxI fx0) j (ptC j (fxI fx0) j (ptC j (fxI fx0) j (ptC j (fxI fx0) j (ptC j (fxI fx0) j (ptC j (fxI fx0) j (ptC j (fxI fx0) j (ptC j (fxI fx0) j pt0)))))))))) (flat0 j fun _=>j))<|q (oAsO j j j j j)<|nl)<|us<|Go.ret (Unw.ret ?_)
 cases h
 exact fr rF159 j
theorem L_spec_l07Find {name_0:ByteArray} {r:Int} (h:spec_l07Find name_0=some r):FX 180 [.im 2 false [Y name_0]] (B0 [(false,[.im 0 (I r)])]):=by
 unfold spec_l07Find at h
 refine gn 19 Try.func180 rfl ?_
 refine gs<|g0 j j (q (oAsI j j)<|nl)<|us<|gs<|?_
 obtain ⟨x5,hx5,h⟩:=bs h
 refine g0 j j (q (oCr (xs:=[]) (vs:=[(false,[.own 5 0 0])]) (v:=.v false [.own 5 0 0]) (c:=⟨.sh,0,_⟩) (cs:=[]) (L_spec_l07Names hx5) (.inl j) j kF159_ j pp0 j j pb0 j j j)<|q (oAsO j j j j j)<|nl)<|us<|gs<|gs<|g0 j j (q (oAsI j j)<|nl)<|us<|Go.block<|?_
 obtain ⟨o,hl,h⟩:=bs h
 refine gl c180 j _ (fun (i_4_l3:Int)=>mk [(0,sv name_0),(3,H 3 0),(4,iv i_4_l3)] [(3,Oc [Z (W 1 eS x5)])]) (fun (o:(Unit ⊕ Int)) (p:Ex×St)=>match o with | (.inl _)=>p.1= .exit 0∧p.2.norm ([],[])=mk [] [] | (.inr r2)=>p.1= .ret∧fin Try.prog cfg 180 Try.f180 [.im 2 false [Y name_0]] p.2=some (B0 [(false,[.im 0 (I r2)])])) hl (by kernel_rfl) ?_ ?_ ?_
 ·intro o p hp e
  rcases o with u | r2<;>exact nomatch (hp.1.symm.trans e)
 ·rintro i_4_l3 o h
  unfold spec_l07Find_l3 at h
  refine gs<|gs<|g0 j j (q (oMv j j)<|q (oMv j j)<|q (oLnO j j uF195 j j j (fun e=>nomatch e))<|q (oBi j j j j)<|nl)<|us<|gc h j iDec (fun hc5 h=>?_) fun hc5 h=>?_
  ·refine Go.skip<|us<|gs<|Go.block<|gs<|?_
   obtain ⟨x14,hx14,h⟩:=bs h
   refine g0 j j (q (oMv j j)<|q (oMv j j)<|q (oIAO j hx14 sF195 j j j j)<|q (oLdE (cs:=[.im 0 _]) j tF9 j j j j (rd_get hx14) j j)<|q (oMv j j)<|q (oBi j j j j)<|nl)<|us<|gc h j iStr (fun hc6 h=>?_) fun hc6 h=>?_
   ·refine gs<|g0 j j (q (oMv j j)<|q (oAsI j j)<|nl)<|us<|Go.ret (Unw.ret ?_)
    cases h
    exact ⟨j,(fo rF180 j)⟩
   ·refine Go.skip<|Unw.blk<|us<|g0 j j (q (oMv j j)<|q (oBi j j j j)<|q (oAsI j j)<|nl)<|Unw.nil<|?_
    cases h
    exact ⟨j,(by kernel_rfl)⟩
  ·refine Go.exit<|ux<|Unw.nil<|?_
   cases h
   exact ⟨j,(by kernel_rfl)⟩
 ·rintro ⟨e,st⟩ hp
  rcases o with u | r2
  ·dsimp only at h
   obtain ⟨he,hst⟩:=hp
   obtain rfl:e= .exit 0:=he
   refine Unw.blkx<|us<|gs<|g2 c180 j j hst (q (oAsI j j)<|nl)<|us<|Go.ret (Unw.ret ?_)
   cases h
   exact fr rF180 j
  ·dsimp only at h
   obtain ⟨he,hfin⟩:=hp
   obtain rfl:e= .ret:=he
   cases h
   exact Unw.ret (Fin_ret hfin)
theorem L_spec_l07Table {r:(List (List Int))} (h:spec_l07Table=some r):FX 158 [] (B0 [(false,[.ow 0 1 (List.map (eL 1 eI) r)])]):=by
 unfold spec_l07Table at h
 refine gn 12 Try.func158 rfl ?_
 refine gs<|g0 j j (q (oAsN j j eF85)<|nl)<|us<|gs<|g0 j j (q (oBS (es:=List.map eI ([20,40,310]:List Int)) j sF28 j (ptC j (fxI fx0) j (ptC j (fxI fx0) j (ptC j (fxI fx0) j pt0))) (flat0 j fun _=>j))<|q (oBS (es:=List.map eI ([35,45,410]:List Int)) j sF28 j (ptC j (fxI fx0) j (ptC j (fxI fx0) j (ptC j (fxI fx0) j pt0))) (flat0 j fun _=>j))<|q (oBS (es:=List.map eI ([15,33,280]:List Int)) j sF28 j (ptC j (fxI fx0) j (ptC j (fxI fx0) j (ptC j (fxI fx0) j pt0))) (flat0 j fun _=>j))<|q (oBS (es:=List.map eI ([50,36,240]:List Int)) j sF28 j (ptC j (fxI fx0) j (ptC j (fxI fx0) j (ptC j (fxI fx0) j pt0))) (flat0 j fun _=>j))<|q (oBS (es:=List.map eI ([95,85,270]:List Int)) j sF28 j (ptC j (fxI fx0) j (ptC j (fxI fx0) j (ptC j (fxI fx0) j pt0))) (flat0 j fun _=>j))<|q (oBS (es:=List.map eI ([5,35,370]:List Int)) j sF28 j (ptC j (fxI fx0) j (ptC j (fxI fx0) j (ptC j (fxI fx0) j pt0))) (flat0 j fun _=>j))<|q (oBS (es:=List.map eI ([10,42,290]:List Int)) j sF28 j (ptC j (fxI fx0) j (ptC j (fxI fx0) j (ptC j (fxI fx0) j pt0))) (flat0 j fun _=>j))<|q (oBS (es:=List.map eI ([40,40,330]:List Int)) j sF28 j (ptC j (fxI fx0) j (ptC j (fxI fx0) j (ptC j (fxI fx0) j pt0))) (flat0 j fun _=>j))<|q (oBS (es:=List.map eI ([80,60,220]:List Int)) j sF28 j (ptC j (fxI fx0) j (ptC j (fxI fx0) j (ptC j (fxI fx0) j pt0))) (flat0 j fun _=>j))<|q (oBS (es:=List.map eI ([70,38,260]:List Int)) j sF28 j (ptC j (fxI fx0) j (ptC j (fxI fx0) j (ptC j (fxI fx0) j pt0))) (flat0 j fun _=>j))<|q (oBS (es:=List.map (eL 1 eI) ([([20,40,310]:List Int),([35,45,410]:List Int),([15,33,280]:List Int),([50,36,240]:List Int),([95,85,270]:List Int),([5,35,370]:List Int),([10,42,290]:List Int),([40,40,330]:List Int),([80,60,220]:List Int),([70,38,260]:List Int)]:List (List Int))) j sF85 j (ptC j (fxO j j fx0) j (ptC j (fxO j j fx0) j (ptC j (fxO j j fx0) j (ptC j (fxO j j fx0) j (ptC j (fxO j j fx0) j (ptC j (fxO j j fx0) j (ptC j (fxO j j fx0) j (ptC j (fxO j j fx0) j (ptC j (fxO j j fx0) j (ptC j (fxO j j fx0) j pt0)))))))))) (flat1 j))<|q (oAsO j j j j j)<|nl)<|us<|Go.ret (Unw.ret ?_)
 cases h
 exact fr rF158 j
theorem L_spec_l07Grain {g_0:Int} {r:Bool} (h:spec_l07Grain g_0=some r):FX 181 [.im 2 false [I g_0]] (B0 [(false,[.im 0 (V r)])]):=by
 unfold spec_l07Grain at h
 refine gn 5 Try.func181 rfl ?_
 refine gs<|g0 j j (q (oAsI j j)<|nl)<|us<|gs<|?_
 obtain ⟨x4,hx4,h⟩:=bs h
 refine g0 j j (q (oMv j j)<|q (oCa (xs:=[.v false [.im 2 _],.v false [.im 0 _],.v false [.im 0 _]]) (vs:=[(false,[.im 0 _])]) (v:=.v false [.im 0 _]) (L_spec_l00In hx4) (.inl j) j kF97_2_2_2 j (ppC j (ppC j (ppC j pp0))) j j pb0 j j j)<|q (oAsI j j)<|nl)<|us<|Go.ret (Unw.ret ?_)
 cases h
 exact fr rF181 j
theorem L_spec_l07Ok {v_0:S_Veneer} {r:Bool} (h:spec_l07Ok v_0=some r):FX 162 [.im 2 false [.cp (u_S_Veneer v_0) 0]] (B0 [(false,[.im 0 (V r)])]):=by
 unfold spec_l07Ok at h
 refine gn 42 Try.func162 rfl ?_
 refine gs<|g0 j j (q (oAsI j j)<|nl)<|us<|gs<|?_
 obtain ⟨x9,hx9,h⟩:=bs h
 refine g0 j j (q (oMv j j)<|q (oNl j j j)<|q (oFA (r':=.im 2 _) j fF123_0 j j)<|q (oLd (cs:=[.im 2 _]) j tF9 j j)<|q (oCa (xs:=[.v false [.im 2 _]]) (vs:=[(false,[.im 0 _])]) (v:=.v false [.im 0 _]) (L_spec_l07Find hx9) (.inl j) j kF180_9 j (ppC j pp0) j j pb0 j j j)<|q (oAsI j j)<|nl)<|us<|gs<|gs<|?_
 obtain ⟨t_19_m2,hm5,h⟩:=bs h
 refine gX c162 j j j (mk [(0,D 2 (.cp (u_S_Veneer v_0) 0)),(3,iv x9),(19,bv t_19_m2)] []) ?_ ?_
 ·refine xq (oMv j j)<|xq (oBi j j j j)<|xq (oMv j j)<|?_
  refine ic hm5 (fun hc1 hm5=>?_) fun hc1 hm5=>?_
  ·cases hm5
   exact xsgF j j (iDec.2 hc1) j<|xsgF j j (iDec.2 hc1) j<|xsgF j j (iDec.2 hc1) j<|xsgF j j (iDec.2 hc1) j<|xsgF j j (iDec.2 hc1) j<|xsgF j j (iDec.2 hc1) j<|xq (oPkT j j (iDec.2 hc1) j)<|xn
  ·obtain ⟨x17,hx17,hm5⟩:=bs hm5
   cases hm5
   exact xqT j j (byF iDec hc1) (oMv j j)<|xqT j j (byF iDec hc1) (oNl j j j)<|xqT j j (byF iDec hc1) (oFA (r':=.im 2 _) j fF123_1 j j)<|xqT j j (byF iDec hc1) (oLd (cs:=[.im 2 _]) j tF2 j j)<|xqT j j (byF iDec hc1) (oCa (xs:=[.v false [.im 2 _],.v false [.im 0 _],.v false [.im 0 _]]) (vs:=[(false,[.im 0 _])]) (v:=.v false [.im 0 _]) (L_spec_l00In hx17) (.inl j) j kF97_2_2_2 j (ppC j (ppC j (ppC j pp0))) j j pb0 j j j)<|xqT j j (byF iDec hc1) (oUn j j j)<|xq (oPkF j j (byF iDec hc1) j)<|xn
 ·refine us<|gc h j iR (fun hc2 h=>?_) fun hc2 h=>?_
  ·refine gs<|g0 j j (q (oAsI j j)<|nl)<|us<|Go.ret (Unw.ret ?_)
   cases h
   exact fr rF162 j
  ·refine Go.skip<|us<|gs<|?_
   obtain ⟨x20,hx20,h⟩:=bs h
   obtain ⟨x22,hx22,h⟩:=bs h
   obtain ⟨x24,hx24,h⟩:=bs h
   refine g0 j j (q (oCr (xs:=[]) (vs:=[(false,[.own 20 0 0])]) (v:=.v false [.own 20 0 0]) (c:=⟨.sh,0,_⟩) (cs:=[]) (L_spec_l07Table hx20) (.inl j) j kF158_ j pp0 j j pb0 j j j)<|q (oMv j j)<|q (oIAO j hx22 sF85 j j j j)<|q (oLdE (cs:=[.im 0 _]) j tF28 j j j j (rd_get hx22) j j)<|q (oIAI j hx24 sF28 j j)<|q (oLd (cs:=[.im 0 _]) j tF2 j j)<|q (oAsI j j)<|nl)<|us<|gs<|?_
   obtain ⟨x34,hx34,h⟩:=bs h
   obtain ⟨t_2_m5,hm4,h⟩:=bs h
   refine gX c162 j j j (mk [(2,bv t_2_m5)] []) ?_ ?_
   ·refine xq (oMv j j)<|xq (oNl j j j)<|xq (oFA (r':=.im 2 _) j fF123_1 j j)<|xq (oLd (cs:=[.im 2 _]) j tF2 j j)<|xq (oMv j j)<|xq (oBi j j j j)<|xq (oMv j j)<|xq (oBi j j j j)<|xq (oCa (xs:=[.v false [.im 2 _],.v false [.im 0 _],.v false [.im 0 _]]) (vs:=[(false,[.im 0 _])]) (v:=.v false [.im 0 _]) (L_spec_l00In hx34) (.inl j) j kF97_2_2_2 j (ppC j (ppC j (ppC j pp0))) j j pb0 j j j)<|xq (oMv j j)<|?_
    refine ic hm4 (fun hc3 hm4=>?_) fun hc3 hm4=>?_
    ·obtain ⟨x40,hx40,hm4⟩:=bs hm4
     cases hm4
     exact xqT j j (iR.2 hc3) (oMv j j)<|xqT j j (iR.2 hc3) (oNl j j j)<|xqT j j (iR.2 hc3) (oFA (r':=.im 2 _) j fF123_2 j j)<|xqT j j (iR.2 hc3) (oLd (cs:=[.im 2 _]) j tF2 j j)<|xqT j j (iR.2 hc3) (oCa (xs:=[.v false [.im 2 _]]) (vs:=[(false,[.im 0 _])]) (v:=.v false [.im 0 _]) (L_spec_l07Grain hx40) (.inl j) j kF181_2 j (ppC j pp0) j j pb0 j j j)<|xq (oPkT j j (iR.2 hc3) j)<|xq (oAsI j j)<|xn
    ·cases hm4
     exact xsgF j j (byF iR hc3) j<|xsgF j j (byF iR hc3) j<|xsgF j j (byF iR hc3) j<|xsgF j j (byF iR hc3) j<|xsgF j j (byF iR hc3) j<|xq (oPkF j j (byF iR hc3) j)<|xq (oAsI j j)<|xn
   ·refine us<|Go.ret (Unw.ret ?_)
    cases h
    exact fr rF162 j
theorem L_spec_l15Sheets {list_0:(List S_Veneer)} {r:Bool} (h:spec_l15Sheets list_0=some r):FX 122 [.im 2 false [W 3 e_S_Veneer list_0]] (B0 [(false,[.im 0 (V r)])]):=by
 unfold spec_l15Sheets at h
 refine gn 23 Try.func122 rfl ?_
 refine gs<|g0 j j (q (oAsI j j)<|nl)<|us<|gs<|gs<|g0 j j (q (oAsI j j)<|nl)<|us<|Go.block<|?_
 obtain ⟨o,hl,h⟩:=bs h
 refine gl c122 j _ (fun (i_3_l2:Int)=>mk [(0,D 2 (W 3 e_S_Veneer list_0)),(3,iv i_3_l2)] []) (fun (o:(Unit ⊕ Bool)) (p:Ex×St)=>match o with | (.inl _)=>p.1= .exit 0∧p.2.norm ([0],[])=mk [(0,D 2 (W 3 e_S_Veneer list_0))] [] | (.inr r2)=>p.1= .ret∧fin Try.prog cfg 122 Try.f122 [.im 2 false [W 3 e_S_Veneer list_0]] p.2=some (B0 [(false,[.im 0 (V r2)])])) hl (by kernel_rfl) ?_ ?_ ?_
 ·intro o p hp e
  rcases o with u | r2<;>exact nomatch (hp.1.symm.trans e)
 ·rintro i_3_l2 o h
  unfold spec_l15Sheets_l2 at h
  refine gs<|gs<|g0 j j (q (oMv j j)<|q (oMv j j)<|q (oLnI j j uF42 j)<|q (oBi j j j j)<|nl)<|us<|gc h j iDec (fun hc6 h=>?_) fun hc6 h=>?_
  ·refine Go.skip<|us<|gs<|Go.block<|gs<|?_
   obtain ⟨x12,hx12,h⟩:=bs h
   obtain ⟨x13,hx13,h⟩:=bs h
   refine g0 j j (q (oMv j j)<|q (oMv j j)<|q (oIAI j hx12 sF42 j j)<|q (oCa (xs:=[.v false [.im 2 _]]) (vs:=[(false,[.im 0 _])]) (v:=.v false [.im 0 _]) (L_spec_l07Ok hx13) (.inl j) j kF162_199 j (ppC j pp0) j j pb0 j j j)<|q (oUn j j j)<|nl)<|us<|?_
   by_cases hc7:x13=true
   ·rw [if_pos hc7] at h
    refine gF j (nF (iR.2 hc7))<|Go.skip<|Unw.blk<|us<|g0 j j (q (oMv j j)<|q (oBi j j j j)<|q (oAsI j j)<|nl)<|Unw.nil<|?_
    cases h
    exact ⟨j,(by kernel_rfl)⟩
   ·rw [if_neg hc7] at h
    refine gT j (nT (byF iR hc7))<|gs<|g0 j j (q (oAsI j j)<|nl)<|us<|Go.ret (Unw.ret ?_)
    cases h
    exact ⟨j,(fo rF122 j)⟩
  ·refine Go.exit<|ux<|Unw.nil<|?_
   cases h
   exact ⟨j,(by kernel_rfl)⟩
 ·rintro ⟨e,st⟩ hp
  rcases o with u | r2
  ·dsimp only at h
   obtain ⟨he,hst⟩:=hp
   obtain rfl:e= .exit 0:=he
   refine Unw.blkx<|us<|gs<|gX c122 j j hst (mk [(2,bv ((decide ((list_0.length:Int)≥1))&&(decide ((list_0.length:Int)≤8))))] []) ?_ ?_
   ·refine xq (oMv j j)<|xq (oLnI j j uF42 j)<|xq (oBi j j j j)<|xq (oMv j j)<|?_
    by_cases hc5:(list_0.length:Int)≥1
    ·exact xqT rfl rfl (iDec.2 hc5) (oMv rfl rfl)<|xqT rfl rfl (iDec.2 hc5) (oLnI rfl rfl uF42 rfl)<|xqT rfl rfl (iDec.2 hc5) (oBi rfl rfl rfl rfl)<|xq (oPkT rfl rfl (iDec.2 hc5) rfl)<|xq (oAsI rfl rfl)<|xn (Eq.trans (b:=(fun t_2_m6:Bool=>mk [(2,bv t_2_m6)] []) (decide ((list_0.length:Int)≤8))) (by kernel_rfl) (congrArg (fun t_2_m6:Bool=>mk [(2,bv t_2_m6)] []) (by first | rfl | (simp [(iDec.2 hc5)];done) | (simp [(iDec.2 hc5)];omega))))
    ·exact xsgF rfl rfl (byF iDec hc5) rfl<|xsgF rfl rfl (byF iDec hc5) rfl<|xsgF rfl rfl (byF iDec hc5) rfl<|xq (oPkF rfl rfl (byF iDec hc5) rfl)<|xq (oAsI rfl rfl)<|xn (Eq.trans (b:=(fun t_2_m6:Bool=>mk [(2,bv t_2_m6)] []) false) (by kernel_rfl) (congrArg (fun t_2_m6:Bool=>mk [(2,bv t_2_m6)] []) (by first | rfl | (simp [(byF iDec hc5)];done) | (simp [(byF iDec hc5)];omega))))
   ·refine us<|Go.ret (Unw.ret ?_)
    cases h
    exact fr rF122 j
  ·dsimp only at h
   obtain ⟨he,hfin⟩:=hp
   obtain rfl:e= .ret:=he
   cases h
   exact Unw.ret (Fin_ret hfin)
theorem L_spec_l05HasEdge {ring_0:(List Int)} {i_1:Int} {k_2:Int} {r:Bool} (h:spec_l05HasEdge ring_0 i_1 k_2=some r):FX 182 [.im 2 false [W 1 eI ring_0],.im 2 false [I i_1],.im 2 false [I k_2]] (B0 [(false,[.im 0 (V r)])]):=by
 unfold spec_l05HasEdge at h
 refine gn 46 Try.func182 rfl ?_
 refine gs<|g0 j j (q (oAsI j j)<|nl)<|us<|gs<|gs<|g0 j j (q (oAsI j j)<|nl)<|us<|Go.block<|?_
 obtain ⟨o,hl,h⟩:=bs h
 refine gl c182 j _ (fun (j_7_l2:Int)=>mk [(0,D 2 (W 1 eI ring_0)),(1,iv i_1),(2,iv k_2),(7,iv j_7_l2)] []) (fun (o:(Unit ⊕ Bool)) (p:Ex×St)=>match o with | (.inl _)=>p.1= .exit 0∧p.2.norm ([],[])=mk [] [] | (.inr r2)=>p.1= .ret∧fin Try.prog cfg 182 Try.f182 [.im 2 false [W 1 eI ring_0],.im 2 false [I i_1],.im 2 false [I k_2]] p.2=some (B0 [(false,[.im 0 (V r2)])])) hl (by kernel_rfl) ?_ ?_ ?_
 ·intro o p hp e
  rcases o with u | r2<;>exact nomatch (hp.1.symm.trans e)
 ·rintro j_7_l2 o h
  unfold spec_l05HasEdge_l2 at h
  refine gs<|gs<|g0 j j (q (oMv j j)<|q (oMv j j)<|q (oLnI j j uF28 j)<|q (oBi j j j j)<|nl)<|us<|gc h j iDec (fun hc15 h=>?_) fun hc15 h=>?_
  ·refine Go.skip<|us<|gs<|Go.block<|gs<|?_
   obtain ⟨x18,hx18,h⟩:=bs h
   refine g0 j j (q (oMv j j)<|q (oMv j j)<|q (oIAI j hx18 sF28 j j)<|q (oLd (cs:=[.im 2 _]) j tF2 j j)<|q (oAsI j j)<|nl)<|us<|gs<|?_
   obtain ⟨x25,hx25,h⟩:=bs h
   obtain ⟨x26,hx26,h⟩:=bs h
   refine g0 j j (q (oMv j j)<|q (oMv j j)<|q (oBi j j j j)<|q (oMv j j)<|q (oLnI j j uF28 j)<|q (oRem j hx25 j j)<|q (oIAI j hx26 sF28 j j)<|q (oLd (cs:=[.im 2 _]) j tF2 j j)<|q (oAsI j j)<|nl)<|us<|gs<|?_
   obtain ⟨t_45_m6,hm21,h⟩:=bs h
   refine gX c182 j j j (mk [(0,D 2 (W 1 eI ring_0)),(1,iv i_1),(2,iv k_2),(7,iv j_7_l2),(45,bv t_45_m6)] []) ?_ ?_
   ·refine xq (oMv j j)<|xq (oMv j j)<|xq (oBi j j j j)<|xq (oMv j j)<|?_
    refine ic hm21 (fun hc16 hm21=>?_) fun hc16 hm21=>?_
    ·refine xqT j j (iEq.2 hc16) (oMv j j)<|xqT j j (iEq.2 hc16) (oMv j j)<|xqT j j (iEq.2 hc16) (oBi j j j j)<|xq (oPkT j j (iEq.2 hc16) j)<|xq (oMv j j)<|?_
     refine ic hm21 (fun hc17 hm21=>?_) fun hc17 hm21=>?_
     ·cases hm21
      exact xsgF j j (iEq.2 hc17) j<|xsgF j j (iEq.2 hc17) j<|xsgF j j (iEq.2 hc17) j<|xsgF j j (iEq.2 hc17) j<|xsgU j j j<|xsgU j j j<|xsgU j j j<|xsgF j j (iEq.2 hc17) j<|xq (oPkT j j (iEq.2 hc17) j)<|xn
     ·refine xqT j j (byF iEq hc17) (oMv j j)<|xqT j j (byF iEq hc17) (oMv j j)<|xqT j j (byF iEq hc17) (oBi j j j j)<|xqT j j (byF iEq hc17) (oMv j j)<|?_
      refine ic hm21 (fun hc18 hm21=>?_) fun hc18 hm21=>?_
      ·cases hm21
       exact xqT j j (iEq.2 hc18) (oMv j j)<|xqT j j (iEq.2 hc18) (oMv j j)<|xqT j j (iEq.2 hc18) (oBi j j j j)<|xqT j j (byF iEq hc17) (oPkT j j (iEq.2 hc18) j)<|xq (oPkF j j (byF iEq hc17) j)<|xn
      ·cases hm21
       exact xsgF j j (byF iEq hc18) j<|xsgF j j (byF iEq hc18) j<|xsgF j j (byF iEq hc18) j<|xqT j j (byF iEq hc17) (oPkF j j (byF iEq hc18) j)<|xq (oPkF j j (byF iEq hc17) j)<|xn
    ·refine xsgF j j (byF iEq hc16) j<|xsgF j j (byF iEq hc16) j<|xsgF j j (byF iEq hc16) j<|xq (oPkF j j (byF iEq hc16) j)<|xq (oMv j j)<|xqT j j j (oMv j j)<|xqT j j j (oMv j j)<|xqT j j j (oBi j j j j)<|xqT j j j (oMv j j)<|?_
     refine ic hm21 (fun hc19 hm21=>?_) fun hc19 hm21=>?_
     ·cases hm21
      exact xqT j j (iEq.2 hc19) (oMv j j)<|xqT j j (iEq.2 hc19) (oMv j j)<|xqT j j (iEq.2 hc19) (oBi j j j j)<|xqT j j j (oPkT j j (iEq.2 hc19) j)<|xq (oPkF j j j j)<|xn
     ·cases hm21
      exact xsgF j j (byF iEq hc19) j<|xsgF j j (byF iEq hc19) j<|xsgF j j (byF iEq hc19) j<|xqT j j j (oPkF j j (byF iEq hc19) j)<|xq (oPkF j j j j)<|xn
   ·refine us<|gc h j iR (fun hc20 h=>?_) fun hc20 h=>?_
    ·refine gs<|g0 j j (q (oAsI j j)<|nl)<|us<|Go.ret (Unw.ret ?_)
     cases h
     exact ⟨j,(fo rF182 j)⟩
    ·refine Go.skip<|Unw.blk<|us<|g0 j j (q (oMv j j)<|q (oBi j j j j)<|q (oAsI j j)<|nl)<|Unw.nil<|?_
     cases h
     exact ⟨j,(by kernel_rfl)⟩
  ·refine Go.exit<|ux<|Unw.nil<|?_
   cases h
   exact ⟨j,(by kernel_rfl)⟩
 ·rintro ⟨e,st⟩ hp
  rcases o with u | r2
  ·dsimp only at h
   obtain ⟨he,hst⟩:=hp
   obtain rfl:e= .exit 0:=he
   refine Unw.blkx<|us<|gs<|g2 c182 j j hst (q (oAsI j j)<|nl)<|us<|Go.ret (Unw.ret ?_)
   cases h
   exact fr rF182 j
  ·dsimp only at h
   obtain ⟨he,hfin⟩:=hp
   obtain rfl:e= .ret:=he
   cases h
   exact Unw.ret (Fin_ret hfin)
theorem L_spec_l05Near {d_0:S_Drawing} {k_1:Int} {r:(List Int)} (h:spec_l05Near d_0 k_1=some r):FX 163 [.im 2 false [.cp (u_S_Drawing d_0) 0],.im 2 false [I k_1]] (B0 [(false,[.ow 0 1 (List.map eI r)])]):=by
 unfold spec_l05Near at h
 refine gn 69 Try.func163 rfl ?_
 refine gs<|g0 j j (q (oAsN j j eF28)<|nl)<|us<|gs<|g0 j j (q (oBS (es:=List.map eI ([]:List Int)) j sF28 j pt0 (flat0 j fun _=>j))<|q (oAsO j j j j j)<|nl)<|us<|gs<|?_
 obtain ⟨x16,hx16,h⟩:=bs h
 refine g0 j j (q (oMv j j)<|q (oNl j j j)<|q (oFA (r':=.im 2 _) j fF26_3 j j)<|q (oLd (cs:=[.im 2 _]) j tF24 j j)<|q (oMv j j)<|q (oIAI j hx16 sF24 j j)<|q (oFA (r':=.im 2 _) j fF148_1 j j)<|q (oLd (cs:=[.im 2 _]) j tF28 j j)<|q (oAsI j j)<|nl)<|us<|gs<|gs<|g0 j j (q (oAsI j j)<|nl)<|us<|Go.block<|?_
 obtain ⟨o,hl,h⟩:=bs h
 refine gl c163 j _ (fun (s:(Int×(List Int)))=>match s with | (f_7_l4,out_o5_l4)=>mk [(0,D 2 (.cp (u_S_Drawing d_0) 0)),(1,iv k_1),(5,H 5 0),(6,D 2 (W 1 eI x16.Ring)),(7,iv f_7_l4)] [(5,Oc [Z (W 1 eI out_o5_l4)])]) (fun (out_o5_e0_4:(List Int)) (p:Ex×St)=>p.1= .exit 0∧p.2.norm ([5],[5])=mk [(5,H 5 0)] [(5,Oc [Z (W 1 eI out_o5_e0_4)])]) hl (by kernel_rfl) ?_ ?_ ?_
 ·intro o p hp e
  exact nomatch (hp.1.symm.trans e)
 ·rintro ⟨f_7_l4,out_o5_l4⟩ o h
  unfold spec_l05Near_l4 at h
  dsimp only at h
  refine gs<|gs<|g0 j j (q (oMv j j)<|q (oMv j j)<|q (oNl j j j)<|q (oFA (r':=.im 2 _) j fF26_3 j j)<|q (oLd (cs:=[.im 2 _]) j tF24 j j)<|q (oLnI j j uF24 j)<|q (oBi j j j j)<|nl)<|us<|gc h j iDec (fun hc15 h=>?_) fun hc15 h=>?_
  ·refine Go.skip<|us<|gs<|Go.join (fun st=>∃out_o5_r5,spec_l05Near_k5 f_7_l4 out_o5_r5=some o∧st.norm ([0,1,5,6,7],[5])=mk [(0,D 2 (.cp (u_S_Drawing d_0) 0)),(1,iv k_1),(5,H 5 0),(6,D 2 (W 1 eI x16.Ring)),(7,iv f_7_l4)] [(5,Oc [Z (W 1 eI out_o5_r5)])]) ?_ ?_
   ·rintro st ⟨out_o5_r5,h,hst⟩
    unfold spec_l05Near_k5 at h
    refine us<|g2 c163 j j hst (q (oMv j j)<|q (oBi j j j j)<|q (oAsI j j)<|nl)<|Unw.nil<|?_
    cases h
    exact ⟨j,(by kernel_rfl)⟩
   ·intro K22
    refine Go.block<|gs<|g0 j j (q (oAsI j j)<|nl)<|us<|gs<|gs<|g0 j j (q (oAsI j j)<|nl)<|us<|Go.block<|?_
    obtain ⟨o,hl,h⟩:=bs h
    refine gl c163 j _ (fun (s:(Bool×Int))=>match s with | (found_8_l8,j_9_l8)=>mk [(0,D 2 (.cp (u_S_Drawing d_0) 0)),(1,iv k_1),(5,H 5 0),(6,D 2 (W 1 eI x16.Ring)),(7,iv f_7_l4),(8,bv found_8_l8),(9,iv j_9_l8)] [(5,Oc [Z (W 1 eI out_o5_l4)])]) (fun (found_8_e2_8:Bool) (p:Ex×St)=>p.1= .exit 2∧p.2.norm ([0,1,5,6,7,8],[5])=mk [(0,D 2 (.cp (u_S_Drawing d_0) 0)),(1,iv k_1),(5,H 5 0),(6,D 2 (W 1 eI x16.Ring)),(7,iv f_7_l4),(8,bv found_8_e2_8)] [(5,Oc [Z (W 1 eI out_o5_l4)])]) hl (by kernel_rfl) ?_ ?_ ?_
    ·intro o p hp e
     exact nomatch (hp.1.symm.trans e)
    ·rintro ⟨found_8_l8,j_9_l8⟩ o h
     unfold spec_l05Near_l8 at h
     dsimp only at h
     refine gs<|gs<|g0 j j (q (oMv j j)<|q (oMv j j)<|q (oLnI j j uF28 j)<|q (oBi j j j j)<|nl)<|us<|gc h j iDec (fun hc29 h=>?_) fun hc29 h=>?_
     ·refine Go.skip<|us<|gs<|Go.block<|?_
      obtain ⟨found_8_m10,hm31,h⟩:=bs h
      refine gd c163 j j j j (mk [(0,D 2 (.cp (u_S_Drawing d_0) 0)),(1,iv k_1),(5,H 5 0),(6,D 2 (W 1 eI x16.Ring)),(7,iv f_7_l4),(8,bv found_8_m10),(9,iv j_9_l8)] [(5,Oc [Z (W 1 eI out_o5_l4)])]) ?_ ?_
      ·refine t j j (oMv j j)<|t j j (oMv j j)<|?_
       refine ic hm31 (fun hc30 hm31=>?_) fun hc30 hm31=>?_
       ·cases hm31
        exact tF j j j j (iR.2 hc30) j<|tF j j j j (iR.2 hc30) j<|tF j j j j (iR.2 hc30) j<|tF j j j j (iR.2 hc30) j<|tF j j j j (iR.2 hc30) j<|tF j j j j (iR.2 hc30) j<|tF j j j j (iR.2 hc30) j<|tF j j j j (iR.2 hc30) j<|tF j j j j (iR.2 hc30) j<|tF j j j j (iR.2 hc30) j<|tF j j j j (iR.2 hc30) j<|tF j j j j (iR.2 hc30) j<|tF j j j j (iR.2 hc30) j<|tF j j j j (iR.2 hc30) j<|tF j j j j (iR.2 hc30) j<|tF j j j j (iR.2 hc30) j<|tF j j j j (iR.2 hc30) j<|tF j j j j (iR.2 hc30) j<|tF j j j j (iR.2 hc30) j<|tF j j j j (iR.2 hc30) j<|sS (dF j j j (iR.2 hc30) j) trivial (t j j (oPkT j j (iR.2 hc30) j)<|sS (dN z163 j (oAsI j j)) trivial (sD (by kernel_rfl)))
       ·obtain ⟨x41,hx41,hm31⟩:=bs hm31
        obtain ⟨x46,hx46,hm31⟩:=bs hm31
        obtain ⟨x53,hx53,hm31⟩:=bs hm31
        obtain ⟨x54,hx54,hm31⟩:=bs hm31
        obtain ⟨x56,hx56,hm31⟩:=bs hm31
        cases hm31
        exact tT j j j j (byF iR hc30) (oMv j j)<|tT j j j j (byF iR hc30) (oNl j j j)<|tT j j j j (byF iR hc30) (oFA (r':=.im 2 _) j fF26_3 j j)<|tT j j j j (byF iR hc30) (oLd (cs:=[.im 2 _]) j tF24 j j)<|tT j j j j (byF iR hc30) (oMv j j)<|tT j j j j (byF iR hc30) (oIAI j hx41 sF24 j j)<|tT j j j j (byF iR hc30) (oFA (r':=.im 2 _) j fF148_1 j j)<|tT j j j j (byF iR hc30) (oLd (cs:=[.im 2 _]) j tF28 j j)<|tT j j j j (byF iR hc30) (oMv j j)<|tT j j j j (byF iR hc30) (oMv j j)<|tT j j j j (byF iR hc30) (oIAI j hx46 sF28 j j)<|tT j j j j (byF iR hc30) (oLd (cs:=[.im 2 _]) j tF2 j j)<|tT j j j j (byF iR hc30) (oMv j j)<|tT j j j j (byF iR hc30) (oMv j j)<|tT j j j j (byF iR hc30) (oBi j j j j)<|tT j j j j (byF iR hc30) (oMv j j)<|tT j j j j (byF iR hc30) (oLnI j j uF28 j)<|tT j j j j (byF iR hc30) (oRem j hx53 j j)<|tT j j j j (byF iR hc30) (oIAI j hx54 sF28 j j)<|tT j j j j (byF iR hc30) (oLd (cs:=[.im 2 _]) j tF2 j j)<|sS (dT z163 j j j (byF iR hc30) (oCa (xs:=[.v false [.im 2 _],.v false [.im 2 _],.v false [.im 2 _]]) (vs:=[(false,[.im 0 _])]) (v:=.v false [.im 0 _]) (L_spec_l05HasEdge hx56) (.inl j) j kF182_28_2_2 j (ppC j (ppC j (ppC j pp0))) j j pb0 j j j)) trivial (t j j (oPkF j j (byF iR hc30) j)<|sS (dN z163 j (oAsI j j)) trivial (sD (by kernel_rfl)))
      ·refine Unw.blk<|us<|g0 j j (q (oMv j j)<|q (oBi j j j j)<|q (oAsI j j)<|nl)<|Unw.nil<|?_
       cases h
       exact ⟨j,(by kernel_rfl)⟩
     ·refine Go.exit<|ux<|Unw.nil<|?_
      cases h
      exact ⟨j,(by kernel_rfl)⟩
    ·rintro ⟨e,st⟩ hp
     obtain ⟨found_8_e2_8,rfl⟩:∃y,y=o:=⟨o,rfl⟩
     obtain ⟨he,hst⟩:=hp
     obtain rfl:e= .exit 2:=he
     refine Unw.blkx<|us<|gs<|gX c163 j j hst (mk [(0,D 2 (.cp (u_S_Drawing d_0) 0)),(1,iv k_1),(5,H 5 0),(6,D 2 (W 1 eI x16.Ring)),(7,iv f_7_l4),(63,bv ((f_7_l4 != k_1)&&found_8_e2_8))] [(5,Oc [Z (W 1 eI out_o5_l4)])]) ?_ ?_
     ·refine xq (oMv j j)<|xq (oMv j j)<|xq (oBi j j j j)<|xq (oMv j j)<|?_
      by_cases hc27:f_7_l4≠k_1
      ·exact xqT rfl rfl (iNe.2 hc27) (oMv rfl rfl)<|xq (oPkT rfl rfl (iNe.2 hc27) rfl)<|xn (Eq.trans (b:=(fun t_63_m11:Bool=>mk [(0,D 2 (.cp (u_S_Drawing d_0) 0)),(1,iv k_1),(5,H 5 0),(6,D 2 (W 1 eI x16.Ring)),(7,iv f_7_l4),(63,bv t_63_m11)] [(5,Oc [Z (W 1 eI out_o5_l4)])]) found_8_e2_8) (by kernel_rfl) (congrArg (fun t_63_m11:Bool=>mk [(0,D 2 (.cp (u_S_Drawing d_0) 0)),(1,iv k_1),(5,H 5 0),(6,D 2 (W 1 eI x16.Ring)),(7,iv f_7_l4),(63,bv t_63_m11)] [(5,Oc [Z (W 1 eI out_o5_l4)])]) (by first | rfl | (simp [(iNe.2 hc27)];done) | (simp [(iNe.2 hc27)];omega))))
      ·exact xsgF rfl rfl (byF iNe hc27) rfl<|xq (oPkF rfl rfl (byF iNe hc27) rfl)<|xn (Eq.trans (b:=(fun t_63_m11:Bool=>mk [(0,D 2 (.cp (u_S_Drawing d_0) 0)),(1,iv k_1),(5,H 5 0),(6,D 2 (W 1 eI x16.Ring)),(7,iv f_7_l4),(63,bv t_63_m11)] [(5,Oc [Z (W 1 eI out_o5_l4)])]) false) (by kernel_rfl) (congrArg (fun t_63_m11:Bool=>mk [(0,D 2 (.cp (u_S_Drawing d_0) 0)),(1,iv k_1),(5,H 5 0),(6,D 2 (W 1 eI x16.Ring)),(7,iv f_7_l4),(63,bv t_63_m11)] [(5,Oc [Z (W 1 eI out_o5_l4)])]) (by first | rfl | (simp [(byF iNe hc27)];done) | (simp [(byF iNe hc27)];omega))))
     ·refine us<|gc h j (iAnd iNe iR) (fun hc28 h=>?_) fun hc28 h=>?_
      ·obtain ⟨x67,hx67,h⟩:=bs h
       exact g0 j j (q (oMv j j)<|q (oMv j j)<|q (oBS (es:=List.map eI ([f_7_l4]:List Int)) j sF28 j (ptC j (fxI fx0) j pt0) (flat0 j fun _=>j))<|q (oApO (en:=eI) (M:=([f_7_l4]:List Int)) j hx67 j sF28 j j uF28 (.inl ⟨_,j⟩) j j j j (el_own j j) (flat0 j fun _=>j))<|q (oAsO j j j j j)<|nl)<|Unw.blk<|K22 _ ⟨x67,h,(by kernel_rfl)⟩
      ·exact Go.skip<|Unw.blk<|K22 _ ⟨out_o5_l4,h,(by kernel_rfl)⟩
  ·refine Go.exit<|ux<|Unw.nil<|?_
   cases h
   exact ⟨j,(by kernel_rfl)⟩
 ·rintro ⟨e,st⟩ hp
  obtain ⟨out_o5_e0_4,rfl⟩:∃y,y=o:=⟨o,rfl⟩
  obtain ⟨he,hst⟩:=hp
  obtain rfl:e= .exit 0:=he
  refine Unw.blkx<|us<|gs<|g2 c163 j j hst (q (oMv j j)<|q (oAsO j j j j j)<|nl)<|us<|Go.ret (Unw.ret ?_)
  cases h
  exact fr rF163 j
theorem L_spec_l15Pairs {d_0:S_Drawing} {r:(List (List Int))} (h:spec_l15Pairs d_0=some r):FX 123 [.im 2 false [.cp (u_S_Drawing d_0) 0]] (B0 [(false,[.ow 0 1 (List.map (eL 1 eI) r)])]):=by
 unfold spec_l15Pairs at h
 refine gn 42 Try.func123 rfl ?_
 refine gs<|g0 j j (q (oAsN j j eF85)<|nl)<|us<|gs<|g0 j j (q (oBS (es:=List.map (eL 1 eI) ([]:List (List Int))) j sF85 j pt0 (flat1 j))<|q (oAsO j j j j j)<|nl)<|us<|gs<|gs<|g0 j j (q (oAsI j j)<|nl)<|us<|Go.block<|?_
 obtain ⟨o,hl,h⟩:=bs h
 refine gl c123 j _ (fun (s:(Int×(List (List Int))))=>match s with | (i_4_l3,out_o3_l3)=>mk [(0,D 2 (.cp (u_S_Drawing d_0) 0)),(3,H 3 0),(4,iv i_4_l3)] [(3,Oc [Z (W 1 (eL 1 eI) out_o3_l3)])]) (fun (out_o3_e0_3:(List (List Int))) (p:Ex×St)=>p.1= .exit 0∧p.2.norm ([3],[3])=mk [(3,H 3 0)] [(3,Oc [Z (W 1 (eL 1 eI) out_o3_e0_3)])]) hl (by kernel_rfl) ?_ ?_ ?_
 ·intro o p hp e
  exact nomatch (hp.1.symm.trans e)
 ·rintro ⟨i_4_l3,out_o3_l3⟩ o h
  unfold spec_l15Pairs_l3 at h
  dsimp only at h
  refine gs<|gs<|g0 j j (q (oMv j j)<|q (oMv j j)<|q (oNl j j j)<|q (oFA (r':=.im 2 _) j fF26_3 j j)<|q (oLd (cs:=[.im 2 _]) j tF24 j j)<|q (oLnI j j uF24 j)<|q (oBi j j j j)<|nl)<|us<|gc h j iDec (fun hc11 h=>?_) fun hc11 h=>?_
  ·refine Go.skip<|us<|gs<|Go.block<|gs<|?_
   obtain ⟨x19,hx19,h⟩:=bs h
   refine g0 j j (q (oMv j j)<|q (oMv j j)<|q (oCr (xs:=[.v false [.im 2 _],.v false [.im 0 _]]) (vs:=[(false,[.own 19 0 0])]) (v:=.v false [.own 19 0 0]) (c:=⟨.sh,0,_⟩) (cs:=[]) (L_spec_l05Near hx19) (.inl j) j kF163_81_2 j (ppC j (ppC j pp0)) j j pb0 j j j)<|q (oAsO j j j j j)<|nl)<|us<|gs<|g0 j j (q (oAsI j j)<|nl)<|us<|Go.block<|?_
   obtain ⟨o,hl,h⟩:=bs h
   refine gl c123 j _ (fun (s:(Int×(List (List Int))))=>match s with | (k_6_l7,out_o3_l7)=>mk [(0,D 2 (.cp (u_S_Drawing d_0) 0)),(3,H 3 0),(4,iv i_4_l3),(5,H 5 0),(6,iv k_6_l7)] [(3,Oc [Z (W 1 (eL 1 eI) out_o3_l7)]),(5,Oc [Z (W 1 eI x19)])]) (fun (out_o3_e2_7:(List (List Int))) (p:Ex×St)=>p.1= .exit 2∧p.2.norm ([0,3,4],[3])=mk [(0,D 2 (.cp (u_S_Drawing d_0) 0)),(3,H 3 0),(4,iv i_4_l3)] [(3,Oc [Z (W 1 (eL 1 eI) out_o3_e2_7)])]) hl (by kernel_rfl) ?_ ?_ ?_
   ·intro o p hp e
    exact nomatch (hp.1.symm.trans e)
   ·rintro ⟨k_6_l7,out_o3_l7⟩ o h
    unfold spec_l15Pairs_l7 at h
    dsimp only at h
    refine gs<|gs<|g0 j j (q (oMv j j)<|q (oMv j j)<|q (oLnO j j uF28 j j j (fun e=>nomatch e))<|q (oBi j j j j)<|nl)<|us<|gc h j iDec (fun hc16 h=>?_) fun hc16 h=>?_
    ·refine Go.skip<|us<|gs<|Go.join (fun st=>∃out_o3_r8,spec_l15Pairs_k8 k_6_l7 out_o3_r8=some o∧st.norm ([0,3,4,5,6],[3,5])=mk [(0,D 2 (.cp (u_S_Drawing d_0) 0)),(3,H 3 0),(4,iv i_4_l3),(5,H 5 0),(6,iv k_6_l7)] [(3,Oc [Z (W 1 (eL 1 eI) out_o3_r8)]),(5,Oc [Z (W 1 eI x19)])]) ?_ ?_
     ·rintro st ⟨out_o3_r8,h,hst⟩
      unfold spec_l15Pairs_k8 at h
      refine us<|g2 c123 j j hst (q (oMv j j)<|q (oBi j j j j)<|q (oAsI j j)<|nl)<|Unw.nil<|?_
      cases h
      exact ⟨j,(by kernel_rfl)⟩
     ·intro K18
      refine Go.block<|gs<|?_
      obtain ⟨x28,hx28,h⟩:=bs h
      refine g0 j j (q (oMv j j)<|q (oMv j j)<|q (oIAO j hx28 sF28 j j j j)<|q (oLdE (cs:=[.im 0 _]) j tF2 j j j j (rd_get hx28) j j)<|q (oMv j j)<|q (oBi j j j j)<|nl)<|us<|gc h j iDec (fun hc19 h=>?_) fun hc19 h=>?_
      ·obtain ⟨x36,hx36,h⟩:=bs h
       obtain ⟨x40,hx40,h⟩:=bs h
       exact g0 j j (q (oMv j j)<|q (oMv j j)<|q (oMv j j)<|q (oMv j j)<|q (oIAO j hx36 sF28 j j j j)<|q (oLdE (cs:=[.im 0 _]) j tF2 j j j j (rd_get hx36) j j)<|q (oBS (es:=List.map eI ([i_4_l3,x36]:List Int)) j sF28 j (ptC j (fxI fx0) j (ptC j (fxI fx0) j pt0)) (flat0 j fun _=>j))<|q (oBS (es:=List.map (eL 1 eI) ([([i_4_l3,x36]:List Int)]:List (List Int))) j sF85 j (ptC j (fxO j j fx0) j pt0) (flat1 j))<|q (oApO (en:=(eL 1 eI)) (M:=([([i_4_l3,x36]:List Int)]:List (List Int))) j hx40 j sF85 j j uF85 (.inl ⟨_,j⟩) j j j j (el_own j j) (flat1 j))<|q (oAsO j j j j j)<|nl)<|Unw.blk<|K18 _ ⟨x40,h,(by kernel_rfl)⟩
      ·exact Go.skip<|Unw.blk<|K18 _ ⟨out_o3_l7,h,(by kernel_rfl)⟩
    ·refine Go.exit<|ux<|Unw.nil<|?_
     cases h
     exact ⟨j,(by kernel_rfl)⟩
   ·rintro ⟨e,st⟩ hp
    obtain ⟨out_o3_e2_7,rfl⟩:∃y,y=o:=⟨o,rfl⟩
    obtain ⟨he,hst⟩:=hp
    obtain rfl:e= .exit 2:=he
    refine Unw.blkx<|Unw.blk<|us<|g2 c123 j j hst (q (oMv j j)<|q (oBi j j j j)<|q (oAsI j j)<|nl)<|Unw.nil<|?_
    cases h
    exact ⟨j,(by kernel_rfl)⟩
  ·refine Go.exit<|ux<|Unw.nil<|?_
   cases h
   exact ⟨j,(by kernel_rfl)⟩
 ·rintro ⟨e,st⟩ hp
  obtain ⟨out_o3_e0_3,rfl⟩:∃y,y=o:=⟨o,rfl⟩
  obtain ⟨he,hst⟩:=hp
  obtain rfl:e= .exit 0:=he
  refine Unw.blkx<|us<|gs<|g2 c123 j j hst (q (oMv j j)<|q (oAsO j j j j j)<|nl)<|us<|Go.ret (Unw.ret ?_)
  cases h
  exact fr rF123 j
theorem L_spec_l00Own {list_0:(List Int)} {r:(List Int)} (h:spec_l00Own list_0=some r):FX 69 [.im 2 false [W 1 eI list_0]] (B0 [(false,[.ow 0 1 (List.map eI r)])]):=by
 unfold spec_l00Own at h
 refine gn 6 Try.func69 rfl ?_
 refine gs<|g0 j j (q (oAsN j j eF28)<|nl)<|us<|gs<|?_
 obtain ⟨x5,hx5,h⟩:=bs h
 refine g0 j j (q (oBS (es:=List.map eI ([]:List Int)) j sF28 j pt0 (flat0 j fun _=>j))<|q (oMv j j)<|q (oApO (en:=eI) (M:=list_0) j hx5 j sF28 j j uF28 (.inl ⟨_,j⟩) j j j j el_im (flat0 j fun _=>j))<|q (oAsO j j j j j)<|nl)<|us<|Go.ret (Unw.ret ?_)
 cases h
 exact fr rF69 j
theorem L_spec_l07Angle {a_0:Int} {b_1:Int} {r:Int} (h:spec_l07Angle a_0 b_1=some r):FX 212 [.im 2 false [I a_0],.im 2 false [I b_1]] (B0 [(false,[.im 0 (I r)])]):=by
 unfold spec_l07Angle at h
 refine gn 17 Try.func212 rfl ?_
 refine gs<|g0 j j (q (oAsI j j)<|nl)<|us<|gs<|?_
 obtain ⟨x12,hx12,h⟩:=bs h
 refine g0 j j (q (oMv j j)<|q (oMv j j)<|q (oBi j j j j)<|q (oMv j j)<|q (oMv j j)<|q (oBi j j j j)<|q (oCa (xs:=[.v false [.im 0 _],.v false [.im 0 _]]) (vs:=[(false,[.im 0 _])]) (v:=.v false [.im 0 _]) (L_spec_l00Max hx12) (.inl j) j kF161_2_2 j (ppC j (ppC j pp0)) j j pb0 j j j)<|q (oAsI j j)<|nl)<|us<|gs<|?_
 obtain ⟨x16,hx16,h⟩:=bs h
 refine g0 j j (q (oMv j j)<|q (oMv j j)<|q (oBi j j j j)<|q (oCa (xs:=[.v false [.im 0 _],.v false [.im 0 _]]) (vs:=[(false,[.im 0 _])]) (v:=.v false [.im 0 _]) (L_spec_l00Min hx16) (.inl j) j kF160_2_2 j (ppC j (ppC j pp0)) j j pb0 j j j)<|q (oAsI j j)<|nl)<|us<|Go.ret (Unw.ret ?_)
 cases h
 exact fr rF212 j
theorem L_spec_l07Contrast {a_0:S_Veneer} {b_1:S_Veneer} {r:Int} (h:spec_l07Contrast a_0 b_1=some r):FX 202 [.im 2 false [.cp (u_S_Veneer a_0) 0],.im 2 false [.cp (u_S_Veneer b_1) 0]] (B0 [(false,[.im 0 (I r)])]):=by
 unfold spec_l07Contrast at h
 refine gn 35 Try.func202 rfl ?_
 refine gs<|g0 j j (q (oAsI j j)<|nl)<|us<|gs<|?_
 obtain ⟨x23,hx23,h⟩:=bs h
 obtain ⟨x32,hx32,h⟩:=bs h
 obtain ⟨x33,hx33,h⟩:=bs h
 refine gd c202 j j j j (mk [(4,iv (w64 (x23+x33)))] []) (t j j (oMv j j)<|t j j (oNl j j j)<|t j j (oFA (r':=.im 2 _) j fF123_1 j j)<|t j j (oLd (cs:=[.im 2 _]) j tF2 j j)<|t j j (oMv j j)<|t j j (oNl j j j)<|t j j (oFA (r':=.im 2 _) j fF123_1 j j)<|t j j (oLd (cs:=[.im 2 _]) j tF2 j j)<|t j j (oBi j j j j)<|t j j (oMv j j)<|t j j (oNl j j j)<|t j j (oFA (r':=.im 2 _) j fF123_1 j j)<|t j j (oLd (cs:=[.im 2 _]) j tF2 j j)<|t j j (oMv j j)<|t j j (oNl j j j)<|t j j (oFA (r':=.im 2 _) j fF123_1 j j)<|t j j (oLd (cs:=[.im 2 _]) j tF2 j j)<|t j j (oBi j j j j)<|t j j (oMv j j)<|t j j (oNl j j j)<|t j j (oFA (r':=.im 2 _) j fF123_2 j j)<|t j j (oLd (cs:=[.im 2 _]) j tF2 j j)<|t j j (oMv j j)<|t j j (oNl j j j)<|t j j (oFA (r':=.im 2 _) j fF123_2 j j)<|t j j (oLd (cs:=[.im 2 _]) j tF2 j j)<|sS (dN z202 j (oCa (xs:=[.v false [.im 0 _],.v false [.im 0 _]]) (vs:=[(false,[.im 0 _])]) (v:=.v false [.im 0 _]) (L_spec_l00Max hx23) (.inl j) j kF161_2_2 j (ppC j (ppC j pp0)) j j pb0 j j j)) trivial (sS (dN z202 j (oCa (xs:=[.v false [.im 2 _],.v false [.im 2 _]]) (vs:=[(false,[.im 0 _])]) (v:=.v false [.im 0 _]) (L_spec_l07Angle hx32) (.inl j) j kF212_2_2 j (ppC j (ppC j pp0)) j j pb0 j j j)) trivial (t j j (oQuo j hx33 j j)<|t j j (oBi j j j j)<|sS (dN z202 j (oAsI j j)) trivial (sD (by kernel_rfl)))))<|us<|Go.ret (Unw.ret ?_)
 cases h
 exact fr rF202 j
theorem L_spec_l15Contrast {sheets_0:(List S_Veneer)} {a_1:Int} {b_2:Int} {r:Int} (h:spec_l15Contrast sheets_0 a_1 b_2=some r):FX 183 [.im 2 false [W 3 e_S_Veneer sheets_0],.im 2 false [I a_1],.im 2 false [I b_2]] (B0 [(false,[.im 0 (I r)])]):=by
 unfold spec_l15Contrast at h
 refine gn 42 Try.func183 rfl ?_
 refine gs<|g0 j j (q (oAsI j j)<|nl)<|us<|gs<|g0 j j (q (oMv j j)<|q (oLnI j j uF42 j)<|q (oAsI j j)<|nl)<|us<|gs<|g0 j j (q (oAsI j j)<|nl)<|us<|gs<|gs<|g0 j j (q (oAsI j j)<|nl)<|us<|Go.block<|?_
 obtain ⟨o,hl,h⟩:=bs h
 refine gl c183 j _ (fun (s:(Int×Int))=>match s with | (least_8_l4,i_9_l4)=>mk [(0,D 2 (W 3 e_S_Veneer sheets_0)),(1,iv a_1),(2,iv b_2),(7,iv (sheets_0.length:Int)),(8,iv least_8_l4),(9,iv i_9_l4)] []) (fun (least_8_e0_4:Int) (p:Ex×St)=>p.1= .exit 0∧p.2.norm ([8],[])=mk [(8,iv least_8_e0_4)] []) hl (by kernel_rfl) ?_ ?_ ?_
 ·intro o p hp e
  exact nomatch (hp.1.symm.trans e)
 ·rintro ⟨least_8_l4,i_9_l4⟩ o h
  unfold spec_l15Contrast_l4 at h
  dsimp only at h
  refine gs<|gs<|g0 j j (q (oMv j j)<|q (oMv j j)<|q (oBi j j j j)<|nl)<|us<|gc h j iDec (fun hc7 h=>?_) fun hc7 h=>?_
  ·refine Go.skip<|us<|gs<|Go.join (fun st=>∃least_8_r5,spec_l15Contrast_k5 i_9_l4 least_8_r5=some o∧st.norm ([0,1,2,7,8,9],[])=mk [(0,D 2 (W 3 e_S_Veneer sheets_0)),(1,iv a_1),(2,iv b_2),(7,iv (sheets_0.length:Int)),(8,iv least_8_r5),(9,iv i_9_l4)] []) ?_ ?_
   ·rintro st ⟨least_8_r5,h,hst⟩
    unfold spec_l15Contrast_k5 at h
    refine us<|g2 c183 j j hst (q (oMv j j)<|q (oBi j j j j)<|q (oAsI j j)<|nl)<|Unw.nil<|?_
    cases h
    exact ⟨j,(by kernel_rfl)⟩
   ·intro K10
    refine Go.block<|gs<|?_
    obtain ⟨x23,hx23,h⟩:=bs h
    obtain ⟨x24,hx24,h⟩:=bs h
    obtain ⟨x30,hx30,h⟩:=bs h
    obtain ⟨x31,hx31,h⟩:=bs h
    obtain ⟨x32,hx32,h⟩:=bs h
    refine gd c183 j j j j (mk [(0,D 2 (W 3 e_S_Veneer sheets_0)),(1,iv a_1),(2,iv b_2),(7,iv (sheets_0.length:Int)),(8,iv least_8_l4),(9,iv i_9_l4),(10,iv x32)] []) (t j j (oMv j j)<|t j j (oMv j j)<|t j j (oMv j j)<|t j j (oBi j j j j)<|t j j (oMv j j)<|t j j (oRem j hx23 j j)<|t j j (oIAI j hx24 sF42 j j)<|t j j (oMv j j)<|t j j (oMv j j)<|t j j (oMv j j)<|t j j (oBi j j j j)<|t j j (oMv j j)<|t j j (oRem j hx30 j j)<|t j j (oIAI j hx31 sF42 j j)<|sS (dN z183 j (oCa (xs:=[.v false [.im 2 _],.v false [.im 2 _]]) (vs:=[(false,[.im 0 _])]) (v:=.v false [.im 0 _]) (L_spec_l07Contrast hx32) (.inl j) j kF202_199_199 j (ppC j (ppC j pp0)) j j pb0 j j j)) trivial (sS (dN z183 j (oAsI j j)) trivial (sD (by kernel_rfl))))<|us<|gs<|gX c183 j j j (mk [(0,D 2 (W 3 e_S_Veneer sheets_0)),(1,iv a_1),(2,iv b_2),(7,iv (sheets_0.length:Int)),(8,iv least_8_l4),(9,iv i_9_l4),(10,iv x32),(39,bv ((i_9_l4==0)||(decide (x32<least_8_l4))))] []) ?_ ?_
    ·refine xq (oMv j j)<|xq (oBi j j j j)<|xq (oMv j j)<|?_
     by_cases hc11:i_9_l4=0
     ·exact xsgF rfl rfl (iEq.2 hc11) rfl<|xsgF rfl rfl (iEq.2 hc11) rfl<|xsgF rfl rfl (iEq.2 hc11) rfl<|xq (oPkT rfl rfl (iEq.2 hc11) rfl)<|xn (Eq.trans (b:=(fun t_39_m7:Bool=>mk [(0,D 2 (W 3 e_S_Veneer sheets_0)),(1,iv a_1),(2,iv b_2),(7,iv (sheets_0.length:Int)),(8,iv least_8_l4),(9,iv i_9_l4),(10,iv x32),(39,bv t_39_m7)] []) true) (by kernel_rfl) (congrArg (fun t_39_m7:Bool=>mk [(0,D 2 (W 3 e_S_Veneer sheets_0)),(1,iv a_1),(2,iv b_2),(7,iv (sheets_0.length:Int)),(8,iv least_8_l4),(9,iv i_9_l4),(10,iv x32),(39,bv t_39_m7)] []) (by first | rfl | (simp [(iEq.2 hc11)];done) | (simp [(iEq.2 hc11)];omega))))
     ·exact xqT rfl rfl (byF iEq hc11) (oMv rfl rfl)<|xqT rfl rfl (byF iEq hc11) (oMv rfl rfl)<|xqT rfl rfl (byF iEq hc11) (oBi rfl rfl rfl rfl)<|xq (oPkF rfl rfl (byF iEq hc11) rfl)<|xn (Eq.trans (b:=(fun t_39_m7:Bool=>mk [(0,D 2 (W 3 e_S_Veneer sheets_0)),(1,iv a_1),(2,iv b_2),(7,iv (sheets_0.length:Int)),(8,iv least_8_l4),(9,iv i_9_l4),(10,iv x32),(39,bv t_39_m7)] []) (decide (x32<least_8_l4))) (by kernel_rfl) (congrArg (fun t_39_m7:Bool=>mk [(0,D 2 (W 3 e_S_Veneer sheets_0)),(1,iv a_1),(2,iv b_2),(7,iv (sheets_0.length:Int)),(8,iv least_8_l4),(9,iv i_9_l4),(10,iv x32),(39,bv t_39_m7)] []) (by first | rfl | (simp [(byF iEq hc11)];done) | (simp [(byF iEq hc11)];omega))))
    ·refine us<|gc h j (iOr iEq iDec) (fun hc12 h=>?_) fun hc12 h=>?_
     ·exact g0 j j (q (oMv j j)<|q (oAsI j j)<|nl)<|Unw.blk<|K10 _ ⟨x32,h,(by kernel_rfl)⟩
     ·exact Go.skip<|Unw.blk<|K10 _ ⟨least_8_l4,h,(by kernel_rfl)⟩
  ·refine Go.exit<|ux<|Unw.nil<|?_
   cases h
   exact ⟨j,(by kernel_rfl)⟩
 ·rintro ⟨e,st⟩ hp
  obtain ⟨least_8_e0_4,rfl⟩:∃y,y=o:=⟨o,rfl⟩
  obtain ⟨he,hst⟩:=hp
  obtain rfl:e= .exit 0:=he
  refine Unw.blkx<|us<|gs<|g2 c183 j j hst (q (oMv j j)<|q (oAsI j j)<|nl)<|us<|Go.ret (Unw.ret ?_)
  cases h
  exact fr rF183 j
theorem L_spec_l15Search_fits {x_0:(Option S_l15Search)} {r:Bool} (h:spec_l15Search_fits x_0=some r):FX 164 [.im 2 false [eO e_S_l15Search x_0]] (B0 [(false,[.im 0 (V r)])]):=by
 unfold spec_l15Search_fits at h
 refine gn 65 Try.func164 rfl ?_
 refine gs<|g0 j j (q (oAsI j j)<|nl)<|us<|gs<|?_
 cases x_0 with
 | none=>
  cases h
 | some ohc1=>
  refine g0 j j (q (oMv j j)<|q (oNl j j j)<|q (oFA (r':=.im 2 _) j fF110_4 j j)<|q (oLd (cs:=[.im 2 _]) j tF28 j j)<|q (oLnI j j uF28 j)<|q (oBi j j j j)<|q (oAsI j j)<|nl)<|us<|gs<|gs<|g0 j j (q (oAsI j j)<|nl)<|us<|Go.block<|?_
  obtain ⟨o,hl,h⟩:=bs h
  refine gl c164 j _ (fun (i_4_l3:Int)=>mk [(0,.v false [.im (tagOf 2 (eO e_S_l15Search (some ohc1))) (eO e_S_l15Search (some ohc1))]),(3,iv (w64 ((ohc1.shifts.length:Int) - 1))),(4,iv i_4_l3)] []) (fun (o:(Unit ⊕ Bool)) (p:Ex×St)=>match o with | (.inl _)=>p.1= .exit 0∧p.2.norm ([],[])=mk [] [] | (.inr r2)=>p.1= .ret∧fin Try.prog cfg 164 Try.f164 [.im 2 false [eO e_S_l15Search (some ohc1)]] p.2=some (B0 [(false,[.im 0 (V r2)])])) hl (by kernel_rfl) ?_ ?_ ?_
  ·intro o p hp e
   rcases o with u | r2<;>exact nomatch (hp.1.symm.trans e)
  ·rintro i_4_l3 o h
   unfold spec_l15Search_fits_l3 at h
   refine gs<|gs<|g0 j j (q (oMv j j)<|q (oMv j j)<|q (oNl j j j)<|q (oFA (r':=.im _ _) j fF110_0 j j)<|q (oLd (cs:=[.im _ _]) j tF85 j j)<|q (oLnI j j uF85 j)<|q (oBi j j j j)<|nl)<|us<|gc h j iDec (fun hc10 h=>?_) fun hc10 h=>?_
   ·refine Go.skip<|us<|gs<|Go.block<|gs<|?_
    obtain ⟨x25,hx25,h⟩:=bs h
    obtain ⟨x27,hx27,h⟩:=bs h
    obtain ⟨t_64_m5,hm13,h⟩:=bs h
    refine gd c164 j j j j (mk [(0,.v false [.im (tagOf 2 (eO e_S_l15Search (some ohc1))) (eO e_S_l15Search (some ohc1))]),(3,iv (w64 ((ohc1.shifts.length:Int) - 1))),(4,iv i_4_l3),(64,bv t_64_m5)] []) ?_ ?_
    ·refine t j j (oMv j j)<|t j j (oNl j j j)<|t j j (oFA (r':=.im _ _) j fF110_0 j j)<|t j j (oLd (cs:=[.im _ _]) j tF85 j j)<|t j j (oMv j j)<|t j j (oIAI j hx25 sF85 j j)<|t j j (oLd (cs:=[.im _ _]) j tF28 j j)<|t j j (oIAI j hx27 sF28 j j)<|t j j (oLd (cs:=[.im _ _]) j tF2 j j)<|t j j (oMv j j)<|t j j (oBi j j j j)<|t j j (oMv j j)<|?_
     refine ic hm13 (fun hc11 hm13=>?_) fun hc11 hm13=>?_
     ·obtain ⟨x45,hx45,hm13⟩:=bs hm13
      obtain ⟨x47,hx47,hm13⟩:=bs hm13
      obtain ⟨x49,hx49,hm13⟩:=bs hm13
      obtain ⟨x56,hx56,hm13⟩:=bs hm13
      obtain ⟨x58,hx58,hm13⟩:=bs hm13
      cases hm13
      exact tT rfl rfl rfl rfl (iEq.2 hc11) (oMv rfl rfl)<|tT rfl rfl rfl rfl (iEq.2 hc11) (oNl rfl rfl rfl)<|tT rfl rfl rfl rfl (iEq.2 hc11) (oFA (r':=.im _ _) rfl fF110_2 rfl rfl)<|tT rfl rfl rfl rfl (iEq.2 hc11) (oLd (cs:=[.im _ _]) rfl tF42 rfl rfl)<|tT rfl rfl rfl rfl (iEq.2 hc11) (oMv rfl rfl)<|tT rfl rfl rfl rfl (iEq.2 hc11) (oNl rfl rfl rfl)<|tT rfl rfl rfl rfl (iEq.2 hc11) (oFA (r':=.im _ _) rfl fF110_4 rfl rfl)<|tT rfl rfl rfl rfl (iEq.2 hc11) (oLd (cs:=[.im _ _]) rfl tF28 rfl rfl)<|tT rfl rfl rfl rfl (iEq.2 hc11) (oMv rfl rfl)<|tT rfl rfl rfl rfl (iEq.2 hc11) (oNl rfl rfl rfl)<|tT rfl rfl rfl rfl (iEq.2 hc11) (oFA (r':=.im _ _) rfl fF110_0 rfl rfl)<|tT rfl rfl rfl rfl (iEq.2 hc11) (oLd (cs:=[.im _ _]) rfl tF85 rfl rfl)<|tT rfl rfl rfl rfl (iEq.2 hc11) (oMv rfl rfl)<|tT rfl rfl rfl rfl (iEq.2 hc11) (oIAI rfl hx45 sF85 rfl rfl)<|tT rfl rfl rfl rfl (iEq.2 hc11) (oLd (cs:=[.im _ _]) rfl tF28 rfl rfl)<|tT rfl rfl rfl rfl (iEq.2 hc11) (oIAI rfl hx47 sF28 rfl rfl)<|tT rfl rfl rfl rfl (iEq.2 hc11) (oLd (cs:=[.im _ _]) rfl tF2 rfl rfl)<|tT rfl rfl rfl rfl (iEq.2 hc11) (oIAI rfl hx49 sF28 rfl rfl)<|tT rfl rfl rfl rfl (iEq.2 hc11) (oLd (cs:=[.im _ _]) rfl tF2 rfl rfl)<|tT rfl rfl rfl rfl (iEq.2 hc11) (oMv rfl rfl)<|tT rfl rfl rfl rfl (iEq.2 hc11) (oNl rfl rfl rfl)<|tT rfl rfl rfl rfl (iEq.2 hc11) (oFA (r':=.im _ _) rfl fF110_4 rfl rfl)<|tT rfl rfl rfl rfl (iEq.2 hc11) (oLd (cs:=[.im _ _]) rfl tF28 rfl rfl)<|tT rfl rfl rfl rfl (iEq.2 hc11) (oMv rfl rfl)<|tT rfl rfl rfl rfl (iEq.2 hc11) (oIAI rfl hx56 sF28 rfl rfl)<|tT rfl rfl rfl rfl (iEq.2 hc11) (oLd (cs:=[.im _ _]) rfl tF2 rfl rfl)<|tT rfl rfl rfl rfl (iEq.2 hc11) (oMv rfl rfl)<|tT rfl rfl rfl rfl (iEq.2 hc11) (oNl rfl rfl rfl)<|tT rfl rfl rfl rfl (iEq.2 hc11) (oFA (r':=.im _ _) rfl fF110_3 rfl rfl)<|tT rfl rfl rfl rfl (iEq.2 hc11) (oLd (cs:=[.im _ _]) rfl tF2 rfl rfl)<|sS (dT z164 rfl rfl rfl (iEq.2 hc11) (oCa (xs:=[.v false [.im _ _],.v false [.im _ _],.v false [.im _ _]]) (vs:=[(false,[.im 0 _])]) (v:=.v false [.im 0 _]) (L_spec_l15Contrast hx58) (.inl rfl) rfl kF183_42_2_2 rfl (ppC rfl (ppC rfl (ppC rfl pp0))) rfl rfl pb0 rfl rfl rfl)) trivial (tT rfl rfl rfl rfl (iEq.2 hc11) (oBi rfl rfl rfl rfl)<|t rfl rfl (oPkT rfl rfl (iEq.2 hc11) rfl)<|sD (by first | (cases (some ohc1)<;>kernel_rfl) | kernel_rfl))
     ·cases hm13
      exact tF rfl rfl rfl rfl (byF iEq hc11) rfl<|tF rfl rfl rfl rfl (byF iEq hc11) rfl<|tF rfl rfl rfl rfl (byF iEq hc11) rfl<|tF rfl rfl rfl rfl (byF iEq hc11) rfl<|tF rfl rfl rfl rfl (byF iEq hc11) rfl<|tF rfl rfl rfl rfl (byF iEq hc11) rfl<|tF rfl rfl rfl rfl (byF iEq hc11) rfl<|tF rfl rfl rfl rfl (byF iEq hc11) rfl<|tF rfl rfl rfl rfl (byF iEq hc11) rfl<|tF rfl rfl rfl rfl (byF iEq hc11) rfl<|tF rfl rfl rfl rfl (byF iEq hc11) rfl<|tF rfl rfl rfl rfl (byF iEq hc11) rfl<|tF rfl rfl rfl rfl (byF iEq hc11) rfl<|tF rfl rfl rfl rfl (byF iEq hc11) rfl<|tF rfl rfl rfl rfl (byF iEq hc11) rfl<|tF rfl rfl rfl rfl (byF iEq hc11) rfl<|tF rfl rfl rfl rfl (byF iEq hc11) rfl<|tF rfl rfl rfl rfl (byF iEq hc11) rfl<|tF rfl rfl rfl rfl (byF iEq hc11) rfl<|tF rfl rfl rfl rfl (byF iEq hc11) rfl<|tF rfl rfl rfl rfl (byF iEq hc11) rfl<|tF rfl rfl rfl rfl (byF iEq hc11) rfl<|tF rfl rfl rfl rfl (byF iEq hc11) rfl<|tF rfl rfl rfl rfl (byF iEq hc11) rfl<|tF rfl rfl rfl rfl (byF iEq hc11) rfl<|tF rfl rfl rfl rfl (byF iEq hc11) rfl<|tF rfl rfl rfl rfl (byF iEq hc11) rfl<|tF rfl rfl rfl rfl (byF iEq hc11) rfl<|tF rfl rfl rfl rfl (byF iEq hc11) rfl<|tF rfl rfl rfl rfl (byF iEq hc11) rfl<|sS (dF rfl rfl rfl (byF iEq hc11) rfl) trivial (tF rfl rfl rfl rfl (byF iEq hc11) rfl<|t rfl rfl (oPkF rfl rfl (byF iEq hc11) rfl)<|sD (by first | (cases (some ohc1)<;>kernel_rfl) | kernel_rfl))
    ·refine us<|gc h j iR (fun hc12 h=>?_) fun hc12 h=>?_
     ·refine gs<|g0 j j (q (oAsI j j)<|nl)<|us<|Go.ret (Unw.ret ?_)
      cases h
      exact ⟨j,(fo rF164 j)⟩
     ·refine Go.skip<|Unw.blk<|us<|g0 j j (q (oMv j j)<|q (oBi j j j j)<|q (oAsI j j)<|nl)<|Unw.nil<|?_
      cases h
      exact ⟨rfl,(by first | (cases (some ohc1)<;>kernel_rfl) | kernel_rfl)⟩
   ·refine Go.exit<|ux<|Unw.nil<|?_
    cases h
    exact ⟨rfl,(by first | (cases (some ohc1)<;>kernel_rfl) | kernel_rfl)⟩
  ·rintro ⟨e,st⟩ hp
   rcases o with u | r2
   ·dsimp only at h
    obtain ⟨he,hst⟩:=hp
    obtain rfl:e= .exit 0:=he
    refine Unw.blkx<|us<|gs<|g2 c164 j j hst (q (oAsI j j)<|nl)<|us<|Go.ret (Unw.ret ?_)
    cases h
    exact fr rF164 j
   ·dsimp only at h
    obtain ⟨he,hfin⟩:=hp
    obtain rfl:e= .ret:=he
    cases h
    exact Unw.ret (Fin_ret hfin)
end
end Go.Proofs.Ytfjmlccolihpmaa
